/-
  The statement ExprTokensCardSaid, proved; part 9 of 11 of its proof.
-/
import Derived.Test.YtmemoghbijcebaaGreatDoorT7
import Derived.Test.YtmemoghbijcebaaGreatDoorT4
import Derived.KernelRfl
set_option linter.all false
set_option maxRecDepth 100000
namespace Go.Abs
open Go Go.Proofs
def stN (μ:Mu)(X:Int->Int->List UInt8->Int->Int->Mu->St):Except Int (Tok×Nat)->St
 | .ok q=>X q.1.kind q.1.type q.1.text (q.2:Int) 0 μ| .error e=>X 0 0 [] 0 e μ
def su:Except Int (Tok×Nat)->CV
 | .ok q=> .agg [bF q.1.kind,bF q.1.type,CV.str q.1.text,bF (q.2:Int),bF 0]| .error e=> .agg [bF 0,bF 0,CV.str [],bF 0,bF e]
def before (whole:List UInt8):List UInt8:=d8 (dx whole)
def after (part:List UInt8):List UInt8:=na (dx part)
def kP (whole part:List UInt8)(kind exp:Int)(e:Nat):Except Int (Tok×Nat):=
 if 30<countR (before whole)+countR (after part)then .error 7
 else if kind=2 then .ok (⟨1,kind,before whole++[46]++after part++[68]++Lib.itoa exp⟩,e)
 else if exp≠0 then .ok (⟨1,kind,before whole++[46]++after part++[69]++Lib.itoa exp⟩,e)
 else .ok (⟨1,kind,before whole++[46]++after part⟩,e)
def fK:List UInt8:=[50,49,52,55,52,56,51,54,52,55]
def uC (whole:List UInt8)(e:Nat):Except Int (Tok×Nat):=
 if 10<whole.length then .error 28
 else if(d8 whole).length=10/\(Op.bytesLess (d8 whole) fK||decide (d8 whole=fK))=false then .error 28
 else .ok (⟨1,0,d8 whole⟩,e)
def lh (s:List UInt8)(e:Nat):Int:=if atC false s (e+1)=45 then -((valD 0 (cH false s e):Nat):Int)else((valD 0 (cH false s e):Nat):Int)
def qL (s whole part:List UInt8)(point:Bool)(e:Nat):Except Int (Tok×Nat):=
 if(cz false s e).2.2.2 then(if 3<(cH false s e).length then .error 7 else kP whole part (if(cz false s e).1=68 then 2 else 1) (lh s e) (cz false s e).2.2.1)
 else if point then kP whole part 1 0 e else uC whole e
def eA:List (List UInt8):=ek++[kh,jh]
def vV (s:List UInt8)(n:Nat):Bool:=decide (0<digR s n)&&eA.any (dH s (n+digR s n))
def qM (s:List UInt8)(n:Nat):Except Int (Tok×Nat):=
 if !vV s n&&decide (s[n+digR s n]? =some 46)then
  qL s ((s.drop n).take (digR s n)) ((s.drop (n+digR s n+1)).take (digR s (n+digR s n+1))) true (n+digR s n+1+digR s (n+digR s n+1))
 else qL s ((s.drop n).take (digR s n)) [] false (n+digR s n)
section
variable {μ:Mu}{s:List UInt8}
def W9 (l:List UInt8):(na l).length<=l.length:=by unfold na;have:=vU l.reverse;simpa using this
def Vy {x:Int}(h0: -1000000000<=x)(h1:x<=1000000000):(Lib.itoa x).length<=21:=Lib.itoa_length_le x bu bu
def ado {e:Nat}{kind exp a b c d:Int}{t be af:List UInt8}(hb:be.length<=300000)(ha:af.length<=300000)(h0: -1000000000<=exp)(h1:exp<=1000000000):
 R5 (ev E) (e:Int) kind exp be af a b t c d μ=some (pA 1 kind (if kind=2 then be++[46]++af++[68]++Lib.itoa exp else if exp≠0 then be++[46]++af++[69]++Lib.itoa exp else be++[46]++af) (e:Int) 0 μ):=by
 refine ck ?_;have hi:=Vy h0 h1;rw[Z3,dV b7,cK,dV b7,cK,agE h0 h1];simp only[bQ];by_cases hk:kind=2
 ·have:decide (kind=2)=true:=by simp[hk]
  rw[this,bH,dV b7,cK,dV b7,cK,bC hk]
 ·have:decide (kind=2)=false:=by simp[hk]
  rw[this,bI,bB hk];by_cases he:exp=0
  ·have:decide (exp=0)=true:=by simp[he]
   rw[this,cS,bI,bB (by simp[he])]
  ·have:decide (exp=0)=false:=by simp[he]
   rw[this,c8,bH,bC he,dV b7,cK,dV b7,cK]
def O4 {n w e:Nat}{kind exp a b c d:Int}{t part:List UInt8}(hs:s.length<=200000)(hw:n+w<=s.length)(hp:part.length<=200000)(h0: -1000000000<=exp)(h1:exp<=1000000000):
 HM (ev E) s (n:Int) (w:Int) (e:Int) kind exp part a b t c d μ=some (stN μ pz (kP ((s.drop n).take w) part kind exp e)):=by
 refine ck ?_;have e1:n+w-n=w:=bu;have hl:((s.drop n).take w).length<=200000:=b7;have k1:=nI ((s.drop n).take w);have k2:=nI part;have k3:(before ((s.drop n).take w)).length<=200001:=by have:=vU (dx ((s.drop n).take w));unfold before;omega
 have k4:(after part).length<=200001:=by have:=W9 (dx part);unfold after;omega
 rw[Z2,my bu,ku bu hw,bx,e1,Zn];simp only[bQ];rw[Zm bu];simp only[bQ];rw[Zn];simp only[bQ];rw[agD bu];simp only[bQ];rw[Zo];simp only[bQ];rw[Zo];simp only[bQ];have hB:d8 (dx ((s.drop n).take w))=before ((s.drop n).take w):=rfl;have hA:na (dx part)=after part:=rfl;have c1:countR (before ((s.drop n).take w))<=200001:=by unfold countR;split<;>omega
 have c2:countR (after part)<=200001:=by unfold countR;split<;>omega
 rw[hB,hA,my bu,ado bu bu h0 h1,bx,N1];unfold kP;by_cases h30:30<countR (before ((s.drop n).take w))+countR (after part)
 ·have:decide ((30:Int)<((countR (before ((s.drop n).take w))+countR (after part):Nat):Int))=true:=b7;rw[this,bH,bC h30];rfl
 ·have:decide ((30:Int)<((countR (before ((s.drop n).take w))+countR (after part):Nat):Int))=false:=b7;rw[this,bI,bB h30];by_cases hk:kind=2
  ·rw[bC hk,bC hk];rfl
  ·rw[bB hk,bB hk];by_cases he:exp≠0
   ·rw[bC he,bC he];rfl
   ·rw[bB he,bB he];rfl
def adn {n w e:Nat}{a b c d:Int}{t:List UInt8}(hs:s.length<=200000)(hw:n+w<=s.length)(h10:w<=10):
 R0 (ev E) s (n:Int) (w:Int) (e:Int) a b t c d μ=some (stN μ py (uC ((s.drop n).take w) e)):=by
 refine ck ?_;have e1:n+w-n=w:=bu;have hl:((s.drop n).take w).length=w:=b7;rw[Z1,my bu,ku bu hw,bx,e1,Zm bu];simp only[bQ];unfold uC;rw[bB bu];have hm:([50,49,52,55,52,56,51,54,52,55]:List UInt8)=fK:=rfl;rw[hm];by_cases hT:(d8 ((s.drop n).take w)).length=10
 ·have:decide (((d8 ((s.drop n).take w)).length:Int)=10)=true:=b7;rw[this,bH];cases hB:(Op.bytesLess (d8 ((s.drop n).take w)) fK||decide (d8 ((s.drop n).take w)=fK))with|true=>rw[bB bE];rfl|false=>rw[bC ⟨hT,rfl⟩];rfl
 ·have:decide (((d8 ((s.drop n).take w)).length:Int)=10)=false:=b7;rw[this,bI,bB (by simp[hT])];rfl
def uT (whole part:List UInt8)(point has:Bool)(kind exp:Int)(e:Nat):Except Int (Tok×Nat):=if point||has then kP whole part kind exp e else uC whole e
def adm {n w e p:Nat}{kind exp a b c d:Int}{t:List UInt8}{point has:Bool}(hs:s.length<=200000)(hw:n+w<=s.length)(hp:point=true->n+w+1+p<=s.length)(h0: -1000000000<=exp)(h1:exp<=1000000000):
 tK (ev E) s (n:Int) (w:Int) (e:Int) point (p:Int) kind exp has a b t c d μ=some (stN μ ni (uT ((s.drop n).take w) (if point then(s.drop (n+w+1)).take p else []) point has kind exp e)):=by
 refine ck ?_;have h38:(opt (CE (ev E) s (n:Int) (w:Int) (e:Int) point (p:Int) kind exp a b t c d μ) (kS (ev E) dC [] [(4,0)]))=some (stN μ ni (kP ((s.drop n).take w) (if point then(s.drop (n+w+1)).take p else []) kind exp e)):=by
  have:CE (ev E) s (n:Int) (w:Int) (e:Int) point (p:Int) kind exp a b t c d μ=some (stN μ sX (kP ((s.drop n).take w) (if point then(s.drop (n+w+1)).take p else []) kind exp e)):=by
   refine ck ?_;have hfin: ∀q,kS (ev E) dC [] [(4,0)] (stN μ pz q)=some (stN μ sX q):=by
    intro q;cases q with|ok q=>exact BY _ _ _ _ _ _ _|error e=>exact BY _ _ _ _ _ _ _
   cases point with|true=>have hp':=hp rfl;have e1:n+w+1+p-(n+w+1)=p:=bu;rw[JZ,bH,my bu,dy bu,my bu,ku bu hp',bx,e1,O4 hs hw b7 h0 h1,bx,hfin];rfl|false=>rw[JZ,bI,O4 hs hw bE h0 h1,bx,hfin];rfl
  rw[this,bx];cases kP ((s.drop n).take w) (if point then(s.drop (n+w+1)).take p else []) kind exp e with|ok q=>exact BX _ _ _ _ _ _ _|error e=>exact BX _ _ _ _ _ _ _
 rw[Z0];unfold uT;cases point with
 |true=>rw[cS,bI,h38];rfl|false=>
  rw[c8,bH];cases has with
  |true=>rw[cS,bI,h38];rfl|false=>
   rw[c8,bH];have hl:((s.drop n).take w).length=w:=b7;by_cases h10:10<w
   ·have:decide ((10:Int)<(w:Int))=true:=b7;rw[this,bH];simp only[xH,d6,du,uC,hl,bC h10];rfl
   ·have:decide ((10:Int)<(w:Int))=false:=b7;rw[this,bI,adn hs hw bu,bx];simp only[xH,d6,du];cases uC ((s.drop n).take w) e with|ok q=>exact BW _ _ _ _ _ _ _|error e=>exact BW _ _ _ _ _ _ _
def Im: ∀i:Fin 256,((UInt8.ofNat i.val &&& 223=69)↔(UInt8.ofNat i.val=69\/UInt8.ofNat i.val=101))/\((UInt8.ofNat i.val &&& 223=68)↔(UInt8.ofNat i.val=68\/UInt8.ofNat i.val=100)):=cf
def tu (c:UInt8):((c &&& 223=69)↔(c=69\/c=101))/\((c &&& 223=68)↔(c=68\/c=100)):=by have:=Im ⟨c.toNat,c.toNat_lt⟩;simpa using this
def Us {l:List UInt8}(h: ∀b∈l,bL b=true)(hl:l.length<=9):valD 0 l<1000000000:=by have:=(je l 0 h).2;have h2:10^l.length<=10^9:=sH bu hl;omega
def adl {n w e p k:Nat}{a b c d:Int}{t:List UInt8}{point:Bool}(hs:s.length<=200000)(hw:n+w<=s.length)(he:e<s.length)(hk:k<=s.length)(hk1:e+1<=k):
 fB (ev E) s (n : Int) (w : Int) (e : Int) point (p : Int) 1 0 false (k : Int) a b t c d μ = some (
  if digR s k=0 then pw s (n:Int) (w:Int) (e:Int) point (p:Int) 1 0 false a b t c d μ
  else if 3<digR s k then xZ 0 0 [] 0 7 μ
  else pw s (n:Int) (w:Int) ((k+digR s k:Nat):Int) point (p:Int) (if s[e]=68\/s[e]=100 then 2 else 1) (if s[k-1]? =some 45 then -((valD 0 ((s.drop k).take (digR s k)):Nat):Int)else((valD 0 ((s.drop k).take (digR s k)):Nat):Int)) true a b t c d μ):=by
 have e68: ∀c:UInt8,decide ((c.toNat:Int)=68)=decide (c=68):=λc=>eZ (k:=68) bu;have e100: ∀c:UInt8,decide ((c.toNat:Int)=100)=decide (c=100):=λc=>eZ (k:=100) bu;have e45: ∀c:UInt8,decide ((c.toNat:Int)=45)=decide (c=45):=λc=>eZ (k:=45) bu;have hm:=wU hk;refine ck ?_;rw[ZX,GO hs hk];simp only[bQ];by_cases h0:digR s k=0
 ·have:decide ((0:Int)<((digR s k:Nat):Int))=false:=b7;rw[this,bI,bC h0]
 ·have:decide ((0:Int)<((digR s k:Nat):Int))=true:=b7;rw[this,bH,bB h0];by_cases h3:3<digR s k
  ·have:decide ((3:Int)<((digR s k:Nat):Int))=true:=b7;rw[this,bH,bC h3]
  ·have:decide ((3:Int)<((digR s k:Nat):Int))=false:=b7;rw[this,bI,bB h3];have hk2:k-1<s.length:=bu;have hdig: ∀b∈(s.drop k).take (digR s k),bL b=true:=by
    intro b hb;have:(s.drop k).take (digR s k)=(s.drop k).takeWhile bL:=by unfold digR;exact(IY.1 (xP _)).symm
    rw[this]at hb;exact ky _ b hb
   have hlen:((s.drop k).take (digR s k)).length<=9:=b7;have hv:=Us hdig hlen;have h28: ∀(x:Int),HL (ev E) s (n:Int) (w:Int) (e:Int) point (p:Int) 1 x true (k:Int) (digR s k:Nat) a b t c d μ=some (px s (n:Int) (w:Int) ((k+digR s k:Nat):Int) point (p:Int) (if s[e]=68\/s[e]=100 then 2 else 1) x true a b t c d μ):=by
    intro x;refine ck ?_;rw[ZZ,eT he,bx,bx,e68,e100,my bu];by_cases h1:s[e]=68
    ·have:decide (s[e]=68)=true:=by simp[h1]
     rw[this,bH,bC (Or.inl h1)]
    ·have:decide (s[e]=68)=false:=by simp[h1]
     rw[this,bI];by_cases h2:s[e]=100
     ·have:decide (s[e]=100)=true:=by simp[h2]
      rw[this,bH,bC (Or.inr h2)]
     ·have:decide (s[e]=100)=false:=by simp[h2]
      rw[this,bI,bB (by simp[h1,h2])]
   have h24:RZ (ev E) s (n:Int) (w:Int) (e:Int) point (p:Int) 1 (k:Int) (digR s k:Nat) a b t c d μ=some (x5 s (n:Int) (w:Int) ((k+digR s k:Nat):Int) point (p:Int) (if s[e]=68\/s[e]=100 then 2 else 1) (if s[k-1]? =some 45 then -((valD 0 ((s.drop k).take (digR s k)):Nat):Int)else((valD 0 ((s.drop k).take (digR s k)):Nat):Int)) true a b t c d μ):=by
    refine ck ?_;have e1:k+digR s k-k=digR s k:=bu;rw[ZY,my bu,ku bu hm,bx,e1,agC hlen hdig];simp only[bQ];rw[aer bu bu,eT hk2,bx,e45,dK hk2];by_cases h45:s[k-1]=45
    ·have:decide (s[k-1]=45)=true:=by simp[h45]
     have w1:IntKind.wrap .i64 (0-((valD 0 ((s.drop k).take (digR s k)):Nat):Int))= -((valD 0 ((s.drop k).take (digR s k)):Nat):Int):=by rw[el bu bu];omega
     rw[this,bH,w1,h28,bx,BU,bC (show (some s[k-1]:Option UInt8)=some 45 by rw[h45])]
    ·have:decide (s[k-1]=45)=false:=by simp[h45]
     rw[this,bI,h28,bx,BU,bB (show ¬(some s[k-1]:Option UInt8)=some 45 by simp[h45])]
   rw[h24,bx,NZ]
def O3 {n w e p:Nat}{a b c d:Int}{t:List UInt8}{word point:Bool}(hs:s.length<=200000)(hw:n+w<=s.length)(he:e<=s.length)(hp:point=true->n+w+1+p<=s.length)(hword:word=true->s[e]? =some 46):
 tJ (ev E) s (n:Int) (w:Int) (e:Int) word point (p:Int) a b t c d μ=some (stN μ kz (qL s ((s.drop n).take w) (if point then(s.drop (n+w+1)).take p else []) point e)):=by
 have e69: ∀c:UInt8,decide ((c.toNat:Int)=69)=decide (c=69):=λc=>eZ (k:=69) bu;have e101: ∀c:UInt8,decide ((c.toNat:Int)=101)=decide (c=101):=λc=>eZ (k:=101) bu;have e68: ∀c:UInt8,decide ((c.toNat:Int)=68)=decide (c=68):=λc=>eZ (k:=68) bu;have e100: ∀c:UInt8,decide ((c.toNat:Int)=100)=decide (c=100):=λc=>eZ (k:=100) bu;have e43: ∀c:UInt8,decide ((c.toNat:Int)=43)=decide (c=43):=λc=>eZ (k:=43) bu;have e45: ∀c:UInt8,decide ((c.toNat:Int)=45)=decide (c=45):=λc=>eZ (k:=45) bu;obtain⟨whole,hwhole⟩: ∃x,x=(s.drop n).take w:=⟨_,rfl⟩;obtain⟨part,hpart⟩: ∃x,x=(if point then(s.drop (n+w+1)).take p else []):=⟨_,rfl⟩;have h31: ∀{kind exp:Int} {has:Bool} {e:Nat},-1000000000<=exp->exp<=1000000000->(opt (tK (ev E) s (n:Int) (w:Int) (e:Int) point (p:Int) kind exp has a b t c d μ) (kS (ev E) dC [] [(4,0)]))=some (stN μ kz (uT whole part point has kind exp e)):=by
  intro kind exp has e h0 h1;rw[adm hs hw hp h0 h1,bx,hwhole,hpart];cases uT ((s.drop n).take w) (if point then(s.drop (n+w+1)).take p else []) point has kind exp e with|ok q=>exact BV _ _ _ _ _ _ _|error e=>exact BV _ _ _ _ _ _ _
 have hno: ∀{kind exp:Int},uT whole part point false 1 0 e=if point then kP whole part 1 0 e else uC whole e:=by intro kind exp;unfold uT;rw[Bool.or_false]
 rw[<-hwhole,<-hpart];refine ck ?_;rw[ZW,h31 bu bu,hno (kind:=0) (exp:=0)];unfold qL;cases word with
 |true=>
  have hc:atC false s e=46:=by rw[fE,hword rfl];rfl
  have hx:(cz false s e).2.2.2=false:=by
   have:fl false s e=14:=by unfold fl;rw[hc];rfl
   unfold cz;rw[this];rfl
  rw[cS,bI,hx];rfl
 |false=>
  rw[c8,bH];by_cases hlt:e<s.length
  ·have hg:s[e]? =some s[e]:=dK hlt;have hc:atC false s e=s[e]:=by rw[fE,hg];rfl
   have hE:atE false s e=e+1:=by rw[gu,bC hlt]
   rw[ie hlt,bH,eT hlt];simp only[bx,e69,e101,e68,e100];by_cases hlet:s[e]=69\/s[e]=101\/s[e]=68\/s[e]=100
   ·
    have hL:fl false s e=69\/fl false s e=68:=by
     unfold fl;rw[hc];have:=tu s[e];rcases hlet with h|h|h|h
     ·exact Or.inl (this.1.2 (Or.inl h))
     ·exact Or.inl (this.1.2 (Or.inr h))
     ·exact Or.inr (this.2.2 (Or.inl h))
     ·exact Or.inr (this.2.2 (Or.inr h))
    have hC2:atC false s (e+1)=(s[e+1]?).getD 0:=rfl;have hst:expStart false s e<=s.length:=by unfold expStart;rw[hE,gu];split<;>(try split)<;>omega
    have hst1:e+1<=expStart false s e:=by unfold expStart;rw[hE,gu];split<;>(try split)<;>omega
    have hdg:cH false s e=(s.drop (expStart false s e)).take (digR s (expStart false s e)):=(tN).1;have hend:runE false bL s (expStart false s e)=expStart false s e+digR s (expStart false s e):=(tN).2;have hok:(cz false s e)=(fl false s e,fm false s e++cH false s e,runE false bL s (expStart false s e),!decide (cH false s e=[])):=by unfold cz;rw[bC hL]
    have hdl:(cH false s e).length=digR s (expStart false s e):=by rw[hdg];have:=wU hst;simp;omega
    have h20:(opt (fB (ev E) s (n:Int) (w:Int) (e:Int) point (p:Int) 1 0 false (expStart false s e:Nat) a b t c d μ) (kS (ev E) dC [.seq (cN 108 2047)] [(4,0)]))=
     some (stN μ kz (if(cz false s e).2.2.2 then(if 3<(cH false s e).length then .error 7 else kP whole part (if(cz false s e).1=68 then 2 else 1) (lh s e) (cz false s e).2.2.1)else if point then kP whole part 1 0 e else uC whole e)):=by
     rw[adl hs hw hlt hst hst1,bx,hok,hdl,hend];simp only;by_cases h0:digR s (expStart false s e)=0
     ·have:cH false s e=[]:=iK bu;rw[bC h0,this,BT,h31 bu bu,hno (kind:=0) (exp:=0)];rfl
     ·have:cH false s e≠[]:=by intro h;rw[h]at hdl;simp at hdl;omega
      have h1:(!decide (cH false s e=[]))=true:=by simp[this]
      rw[bB h0,h1,bC rfl];by_cases h3:3<digR s (expStart false s e)
      ·rw[bC h3,bC h3,NY];rfl
      ·have hlen:(cH false s e).length<=9:=bu;have hdig: ∀b∈cH false s e,bL b=true:=uR;have hv:=Us hdig hlen;rw[hdg]at hv;have hsign:(if s[expStart false s e-1]? =some 45 then -((valD 0 ((s.drop (expStart false s e)).take (digR s (expStart false s e))):Nat):Int)else((valD 0 ((s.drop (expStart false s e)).take (digR s (expStart false s e))):Nat):Int))=lh s e:=by
        unfold lh;rw[hdg];have hiff:s[expStart false s e-1]? =some 45↔atC false s (e+1)=45:=by
         have hstD:expStart false s e=if(s[e+1]?).getD 0=43\/(s[e+1]?).getD 0=45 then atE false s (e+1)else e+1:=by unfold expStart;rw[hE,hC2]
         rw[hC2,hstD];by_cases hsg:(s[e+1]?).getD 0=43\/(s[e+1]?).getD 0=45
         ·have h2:e+1<s.length:=by
           rcases fu (e+1) s.length with h|h
           ·exact h
           ·rw[eB h]at hsg;rcases hsg with h|h<;>simp at h
          rw[bC hsg,gu,bC h2];have:e+1+1-1=e+1:=bu;rw[this,dK h2];simp
         ·rw[bB hsg];have:e+1-1=e:=bu;rw[this,hg];constructor
          ·intro h;injection h with h;rw[h]at hlet;exact absurd hlet cf
          ·intro h;exact absurd (Or.inr h) hsg
        by_cases h:s[expStart false s e-1]? =some 45
        ·rw[bC h,bC (hiff.1 h)]
        ·rw[bB h,bB (λhh=>h (hiff.2 hh))]
       have hkind:(if s[e]=68\/s[e]=100 then(2:Int)else 1)=if fl false s e=68 then 2 else 1:=by
        have hL2:fl false s e=s[e] &&& 223:=by unfold fl;rw[hc]
        rw[hL2];have:=(tu s[e]).2;by_cases h:s[e]=68\/s[e]=100
        ·rw[bC h,bC (this.2 h)]
        ·rw[bB h,bB (λhh=>h (this.1 hh))]
       have hb: -1000000000<=lh s e/\lh s e<=1000000000:=by unfold lh;rw[hdg];split<;>omega
       rw[bB h3,bB h3,hsign,hkind,BT,h31 hb.1 hb.2];unfold uT;rw[Bool.or_true,bC rfl]
    have hA : cond (decide (IntKind.wrap .i64 ((e : Int) + 1) < (s.length : Int))) (
     opt (dm s (IntKind.wrap .i64 ((e:Int)+1))) λy25=>
     cond (decide (y25 = 43)) (
     opt (fB (ev E) s (n:Int) (w:Int) (e:Int) point (p:Int) 1 0 false (IntKind.wrap .i64 (IntKind.wrap .i64 ((e:Int)+1)+1)) a b t c d μ) (kS (ev E) dC [.seq (cN 108 2047)] [(4,0)])) (
     opt (dm s (IntKind.wrap .i64 ((e:Int)+1))) λy99=>
     cond (decide (y99 = 45)) (
     opt (fB (ev E) s (n:Int) (w:Int) (e:Int) point (p:Int) 1 0 false (IntKind.wrap .i64 (IntKind.wrap .i64 ((e:Int)+1)+1)) a b t c d μ) (kS (ev E) dC [.seq (cN 108 2047)] [(4,0)])) (
     opt (fB (ev E) s (n:Int) (w:Int) (e:Int) point (p:Int) 1 0 false (IntKind.wrap .i64 ((e:Int)+1)) a b t c d μ) (kS (ev E) dC [.seq (cN 108 2047)] [(4,0)])))) (
     opt (fB (ev E) s (n:Int) (w:Int) (e:Int) point (p:Int) 1 0 false (IntKind.wrap .i64 ((e:Int)+1)) a b t c d μ) (kS (ev E) dC [.seq (cN 108 2047)] [(4,0)]))=
     some (stN μ kz (if(cz false s e).2.2.2 then(if 3<(cH false s e).length then .error 7 else kP whole part (if(cz false s e).1=68 then 2 else 1) (lh s e) (cz false s e).2.2.1)else if point then kP whole part 1 0 e else uC whole e)):=by
     have hstD:expStart false s e=if(s[e+1]?).getD 0=43\/(s[e+1]?).getD 0=45 then atE false s (e+1)else e+1:=by unfold expStart;rw[hE,hC2]
     rw[dy bu,dy bu];by_cases h2:e+1<s.length
     ·have hg2:(s[e+1]?).getD 0=s[e+1]:=by rw[dK h2];rfl
      rw[hg2,gu,bC h2]at hstD;rw[ie h2,bH,eT h2];simp only[bx];by_cases h43:s[e+1]=43
      ·have:decide (s[e+1]=43)=true:=by simp[h43]
       rw[bC (Or.inl h43)]at hstD;rw[hstD]at h20;rw[this,bH,h20]
      ·have:decide (s[e+1]=43)=false:=by simp[h43]
       rw[this,bI];by_cases h45:s[e+1]=45
       ·have:decide (s[e+1]=45)=true:=by simp[h45]
        rw[bC (Or.inr h45)]at hstD;rw[hstD]at h20;rw[this,bH,h20]
       ·have:decide (s[e+1]=45)=false:=by simp[h45]
        rw[bB (by simp[h43,h45])]at hstD;rw[hstD]at h20;rw[this,bI,h20]
     ·have hg2:(s[e+1]?).getD 0=0:=by rw[eB bu];rfl
      rw[hg2,bB cf]at hstD;rw[hstD]at h20;rw[iG bu,bI,h20]
    simp only[e43,e45];rw[hA];rcases hlet with h|h|h|h
    ·rw[h];rfl
    ·rw[h];rfl
    ·rw[h];rfl
    ·rw[h];rfl
   ·have hn1:s[e]≠69:=λh=>hlet (Or.inl h);have hn2:s[e]≠101:=λh=>hlet (Or.inr (Or.inl h));have hn3:s[e]≠68:=λh=>hlet (Or.inr (Or.inr (Or.inl h)));have hn4:s[e]≠100:=λh=>hlet (Or.inr (Or.inr (Or.inr h)));have d1:decide (s[e]=69)=false:=by simp[hn1]
    have d2:decide (s[e]=101)=false:=by simp[hn2]
    have d3:decide (s[e]=68)=false:=by simp[hn3]
    have d4:decide (s[e]=100)=false:=by simp[hn4]
    have hx:(cz false s e).2.2.2=false:=by
     have hL2:fl false s e=s[e] &&& 223:=by unfold fl;rw[hc]
     unfold cz;rw[hL2,bB];intro h;have:=tu s[e];rcases h with h|h
     ·rcases this.1.1 h with h|h
      ·exact hn1 h
      ·exact hn2 h
     ·rcases this.2.1 h with h|h
      ·exact hn3 h
      ·exact hn4 h
    rw[d1,d2,d3,d4,hx];rfl
  ·have hx:(cz false s e).2.2.2=false:=by
    have hc:atC false s e=0:=by rw[fE,eB bu];rfl
    have:fl false s e=0:=by unfold fl;rw[hc];rfl
    unfold cz;rw[this];rfl
   rw[iG bu,bI,hx];rfl
def M4:(ev E).call 109 [] μ=some (.ret (LV.osl (dh ek)) μ):=bW (by rw[aiw];rfl)
def Xc: ∀w∈eA,w.length<=200000:=cf
def ahd {n w i:Nat}{a b c d:Int}{t:List UInt8}(hs:s.length<=200000)(hi:i<=s.length): ∀(k j:Nat) (word:Bool),j+k=eA.length->
 z7 (ev E) s (n:Int) (w:Int) (i:Int) word (dh eA) (eA.length:Int) (j:Int) a b t c d μ=some (AV s (n:Int) (w:Int) (i:Int) (word||(decide (0<w)&&(eA.drop j).any (dH s i))) a b t c d μ):=by
 intro k
 induction k with
 |zero=>intro j word hj;refine cC ?_;rw[NE,iG bu,bI,dS bu];simp|succ k ih=>
  intro j word hj;have hlt:j<eA.length:=bu;have hj2:eA.length<=13:=cf;have hg:cT (dh eA) (j:Int)=some (CV.str eA[j]):=by rw[eJ];simp[dh,hlt]
  refine cC ?_;rw[NE,ie hlt,bH,hg,bx,mV,bx,dy bu,dY hlt,qp];cases word with
  |true=>rw[bH,ih (j+1) true bu];rfl|false=>
   rw[bI];by_cases hw:0<w
   ·have:decide ((0:Int)<(w:Int))=true:=b7;rw[this,bH,uF hs hi (Xc _ (md hlt))];simp only[bQ];rw[ih (j+1) _ bu];have:decide (0<w)=true:=by simp[hw]
    rw[this];simp
   ·have:decide ((0:Int)<(w:Int))=false:=b7;have h2:decide (0<w)=false:=b7;rw[this,bI,ih (j+1) false bu,h2];rfl
def oq: ∀w∈eA,Ze w:=by
 intro w hw;simp only[eA,ek,kh,jh,eH,eR,ed,sJ,pk]at hw;rcases hw with rfl|rfl|rfl|rfl|rfl|rfl|rfl|rfl|rfl|rfl|rfl|rfl|rfl
 ·exact⟨[76,84],rfl,cf⟩
 ·exact⟨[76,69],rfl,cf⟩
 ·exact⟨[69,81],rfl,cf⟩
 ·exact⟨[78,69],rfl,cf⟩
 ·exact⟨[71,69],rfl,cf⟩
 ·exact⟨[71,84],rfl,cf⟩
 ·exact⟨[78,79,84],rfl,cf⟩
 ·exact⟨[65,78,68],rfl,cf⟩
 ·exact⟨[79,82],rfl,cf⟩
 ·exact⟨[69,81,86],rfl,cf⟩
 ·exact⟨[78,69,81,86],rfl,cf⟩
 ·exact⟨[84,82,85,69],rfl,cf⟩
 ·exact⟨[70,65,76,83,69],rfl,cf⟩
def aey {n:Nat}(h:eA.any (dH s n)=true):s[n]? =some 46:=by
 rw[xD]at h;obtain⟨w,hw,hb⟩:=h;have:=(lX (oq w hw) hb).1;rw[fE]at this;cases hg:s[n]? with|none=>rw[hg]at this;simp at this|some c=>rw[hg]at this;simp at this;rw[this]
def agt (hs:s.length<=200000){n:Nat}(hn:n<=s.length):(ev E).call 108 [LV.str s,bv (n:Int)] μ=some (.ret (.cv (su (qM s n))) μ):=by
 have e46: ∀c:UInt8,decide ((c.toNat:Int)=46)=decide (c=46):=λc=>eZ (k:=46) bu;have hw:=wU hn;have hap:eq 1 (dh ek) [CV.str ([46,84,82,85,69,46]:List UInt8),CV.str ([46,70,65,76,83,69,46]:List UInt8)]=true:=cf;have hwr:dh ek++[CV.str ([46,84,82,85,69,46]:List UInt8),CV.str ([46,70,65,76,83,69,46]:List UInt8)]=dh eA:=rfl;have hwl:(dh eA).length=eA.length:=by simp[dh]
 refine bW ?_;rw[aiv,GO hs hn];simp only[bQ];rw[M4];simp only[bQ];have hl:=ahd (μ:=μ) (n:=n) (w:=digR s n) (i:=n+digR s n) (a:=0) (b:=0) (c:=0) (d:=0) (t:=[]) hs hw eA.length 0 false bu;have e0:((0:Nat):Int)=0:=rfl;rw[e0,d7,qq]at hl;rw[hap,cK,hwr,hwl,my bu,hl,bx,Q5];have hW:(decide (0<digR s n)&&eA.any (dH s (n+digR s n)))=vV s n:=rfl;rw[hW];have hfin: ∀q:Except Int (Tok×Nat),kB (ev E) 108 dC [] (stN μ kz q)=some (.ret (.cv (su q)) μ):=by
  intro q;cases q with|ok q=>exact BS _ _ _ _ _ _ _|error e=>exact BS _ _ _ _ _ _ _
 have hword: ∀{x:Bool},vV s n=x->x=true->s[n+digR s n]? =some 46:=by intro x h1 h2;rw[h2]at h1;unfold vV at h1;rw[cE]at h1;exact aey h1.2
 have hno: ∀{x:Bool},vV s n=x->(opt (tJ (ev E) s (n:Int) (digR s n:Nat) ((n+digR s n:Nat):Int) x false 0 0 0 [] 0 0 μ) (kB (ev E) 108 dC []))=some (.ret (.cv (su (qL s ((s.drop n).take (digR s n)) [] false (n+digR s n)))) μ):=by intro x hx;have:=O3 (μ:=μ) (n:=n) (w:=digR s n) (e:=n+digR s n) (p:=0) (a:=0) (b:=0) (c:=0) (d:=0) (t:=[]) (word:=x) (point:=false) hs hw hw (by intro h;cases h) (hword hx);rw[e0]at this;rw[this,bx,hfin];rfl
 unfold qM;cases hx:vV s n with
 |true=>rw[cS,bI,hno hx];rfl|false=>
  rw[c8,bH];by_cases hlt:n+digR s n<s.length
  ·rw[ie hlt,bH,eT hlt];simp only[bx,e46];rw[dK hlt];by_cases h46:s[n+digR s n]=46
   ·have:decide (s[n+digR s n]=46)=true:=by simp[h46]
    have hp:=wU (s:=s) (n:=n+digR s n+1) hlt;rw[this,bH,dy bu,GO hs hlt];simp only[bQ];rw[my (n:=n+digR s n+1) (m:=digR s (n+digR s n+1)) bu,O3 hs hw hp (λ_=>hp) (by intro h;cases h),bx,hfin];have h2:(true&&decide ((some s[n+digR s n]:Option UInt8)=some 46))=true:=by simp[h46]
    rw[h2,bC rfl];rfl
   ·have:decide (s[n+digR s n]=46)=false:=by simp[h46]
    have h2:(true&&decide ((some s[n+digR s n]:Option UInt8)=some 46))=false:=by simp[h46]
    rw[this,bI,hno hx,h2];rfl
  ·have h2:(true&&decide (s[n+digR s n]? =some 46))=false:=by rw[eB bu];rfl
   rw[iG bu,bI,hno hx,h2];rfl
end
section
variable {s:List UInt8}{n:Nat}
theorem mv:eA=ek++[kh,jh]:=rfl
def X5 (h:atC false s n=46):eA.any (dH s n)=(dE false s n).2.2:=by
 have hd:(dE false s n).2.2=jb false s n:=by unfold dE;rw[bC h]
 rw[hd];apply Bool.eq_iff_iff.2;constructor
 ·intro ha;rw[xD]at ha;obtain⟨w,hw,hb⟩:=ha;obtain⟨_,h2,h3,_⟩:=lX (oq w hw) hb;unfold jb;rw[h2,h3];rw[mv,gt]at hw;rcases hw with hw|hw
  ·have:ek.contains w=true:=I5.2 hw;rw[this];rfl
  ·simp only[ed,sJ,pk]at hw;rcases hw with rfl|rfl
   ·simp
   ·simp
 ·intro ha;unfold jb at ha;simp only[cE,gO,dA]at ha;obtain⟨h3,h4⟩:=ha;have hm:fM false s n∈eA:=by
   rw[mv,gt];rcases h4 with(h4|h4)|h4
   ·exact Or.inl (I5.1 h4)
   ·rw[h4];exact Or.inr bE
   ·rw[h4];exact Or.inr bE
  rw[xD];exact⟨_,hm,Kv h rfl h3⟩
def zG: ∀(l:List UInt8),l≠[]->d8 l=dx (l.dropWhile (· == 48))
 |[],h=>absurd rfl h|[c],_=>by
  unfold d8 dx;by_cases hc:c=48
  ·simp[hc]
  ·simp[hc]
 |c::d::r,_=>by
  unfold d8;by_cases hc:c=48
  ·have:(c::d::r).dropWhile (· ==(48:UInt8))=(d::r).dropWhile (· == 48):=by rw[Dm,hc];rfl
   rw[bC hc,zG (d::r) bE,this]
  ·rw[bB hc,Dm];simp[hc,dx]
def Bm (l:List UInt8):before l=dx (gB l):=by
 unfold before gB Lib.trimLeftB;by_cases h:l=[]
 ·subst h;rfl
 ·have:dx l=l:=by unfold dx;rw[bB h]
  rw[this];exact zG l h
def WF (l:List UInt8):(dx l).reverse=dx l.reverse:=by
 unfold dx;by_cases h:l=[]
 ·subst h;rfl
 ·rw[bB h,bB (by simpa using h)]
def EY (l:List UInt8):after l=dx (ei l):=by
 unfold after ei Lib.trimRightB na;by_cases h:l=[]
 ·subst h;rfl
 ·have:dx l=l:=by unfold dx;rw[bB h]
  rw[this,zG l.reverse (by simpa using h),WF]
def yL (l:List UInt8):countR (dx (gB l))=(gB l).length:=by
 unfold countR dx;by_cases h:gB l=[]
 ·rw[bC h,bC rfl,h];rfl
 ·rw[bB h,bB];intro h2;unfold gB Lib.trimLeftB at h2;have:=IV (· ==(48:UInt8)) (l:=l) (by rw[h2];simp);simp only[h2]at this;simp at this
def wb (l:List UInt8):countR (dx (ei l))=(ei l).length:=by
 unfold countR dx;by_cases h:ei l=[]
 ·rw[bC h,bC rfl,h];rfl
 ·rw[bB h,bB];intro h2;unfold ei Lib.trimRightB at h2;have h3:l.reverse.dropWhile (· ==(48:UInt8))=[48]:=by have:=mE List.reverse h2;simpa using this
  have:=IV (· ==(48:UInt8)) (l:=l.reverse) (by rw[h3];simp);simp only[h3]at this;simp at this
def uG: ∀(a b:List UInt8),a.length=b.length->(∀x∈a,bL x=true)->(∀x∈b,bL x=true)->Op.bytesLess a b=true->valD 0 a<valD 0 b
 |[],[],_,_,_,h=>by simp[Op.bytesLess]at h|[],_::_,hl,_,_,_=>by simp at hl|_::_,[],hl,_,_,_=>by simp at hl|x::a,y::b,hl,ha,hb,h=>by
  simp only[dz,Nat.add_right_cancel_iff]at hl;have hx:=fP.1 (ha x j7);have hy:=fP.1 (hb y j7);have ha': ∀x∈a,bL x=true:=λz hz=>ha z (fw _ hz);have hb': ∀x∈b,bL x=true:=λz hz=>hb z (fw _ hz);rw[gC,gC,xx a,xx b,hl];have h1:=(je a 0 ha').2;rw[hl]at h1;simp only[Op.bytesLess,gO,cE,dA,beq_iff_eq]at h;rcases h with h|⟨h,h2⟩
  ·have hlt:x.toNat<y.toNat:=UInt8.lt_iff_toNat_lt.1 h;have h3:(0*10+(x.toNat-48)+1)*10^b.length<=(0*10+(y.toNat-48))*10^b.length:=sI _ bu;rw[ow]at h3;omega
  ·subst h;have:=uG a b hl ha' hb' h2;omega
def y4: ∀(a b:List UInt8),a.length=b.length->Op.bytesLess a b=true\/a=b\/Op.bytesLess b a=true
 |[],[],_=>Or.inr (Or.inl rfl)|[],_::_,hl=>by simp at hl|_::_,[],hl=>by simp at hl|x::a,y::b,hl=>by
  simp only[dz,Nat.add_right_cancel_iff]at hl;simp only[Op.bytesLess,gO,cE,dA,beq_iff_eq,q7];by_cases h1:x<y
  ·exact Or.inl (Or.inl h1)
  ·by_cases h2:y<x
   ·exact Or.inr (Or.inr (Or.inl h2))
   ·have:x=y:=by apply sM;rw[UInt8.lt_iff_toNat_lt]at h1 h2;omega
    subst this;rcases y4 a b hl with h|h|h
    ·exact Or.inl (Or.inr ⟨rfl,h⟩)
    ·exact Or.inr (Or.inl ⟨rfl,h⟩)
    ·exact Or.inr (Or.inr (Or.inr ⟨rfl,h⟩))
def qK:valD 0 fK=2147483647:=cf
def zb: ∀x∈fK,bL x=true:=cf
def agm {w:List UInt8}(hd: ∀b∈w,bL b=true)(h0:w≠[])(e:Nat):uC w e=(match eK w with| .ok t=> .ok (t,e)| .error x=> .error x):=by
 unfold uC eK;by_cases h10:10<w.length
 ·rw[bC h10,bC (Or.inl h10)]
 ·rw[bB h10];have ha:=ja hd h0 bu;have hN:eD w=(valD 0 w:Nat):=by unfold eD;rw[ha]
  have hK:oz w=true:=by unfold oz;rw[ha]
  have hT:=Cx w;have hTd: ∀b∈d8 w,bL b=true:=λb hb=>hd b (Cw w b hb);have key:((d8 w).length=10/\(Op.bytesLess (d8 w) fK||decide (d8 w=fK))=false)↔2147483647<valD 0 w:=by
   by_cases hl:(d8 w).length=10
   ·have hlm:(d8 w).length=fK.length:=hl;constructor
    ·rintro⟨_,h2⟩;rw[ot]at h2;rcases y4 (d8 w) fK hlm with h|h|h
     ·rw[h]at h2;exact absurd h2.1 bE
     ·rw[h]at h2;exact absurd h2.2 bE
     ·have:=uG _ _ hlm.symm zb hTd h;rw[qK,hT]at this;exact this
    ·intro h;refine⟨hl,?_⟩;rw[ot];constructor
     ·cases hb:Op.bytesLess (d8 w) fK with|false=>rfl|true=>have:=uG _ _ hlm hTd zb hb;rw[qK,hT]at this;omega
     ·simp only[gL];intro hb;rw[hb,qK]at hT;omega
   ·constructor
    ·rintro⟨h,_⟩;exact absurd h hl
    ·intro h;exfalso;have h1:=(je (d8 w) 0 hTd).2;have h2:=vU w;have h3:(10:Nat)^(d8 w).length<=10^9:=sH bu bu;rw[hT]at h1;omega
  by_cases hm:2147483647<valD 0 w
  ·rw[bC (key.2 hm),bC (Or.inr (Or.inr (by rw[hN];omega)))]
  ·rw[bB (λh=>hm (key.1 h)),bB (by rw[hN,hK];simp;omega),hN,aca hd h0]
def JN {x:Int}:Lib.itoa x=[48]↔x=0:=by
 constructor
 ·intro h;by_cases h0:0<=x
  ·obtain⟨m,rfl⟩: ∃m:Nat,x=(m:Int):=⟨x.toNat,bu⟩;rw[oG]at h;by_cases h9:m<10
   ·rw[Lib.decDigits_one h9]at h;injection h with h _;have:=mE UInt8.toNat h;rw[IU (by show 48+m<256;omega)]at this;have h48:(48:UInt8).toNat=48:=rfl;omega
   ·have hl:=mE List.length h;rw[Lib.decDigits,dif_neg h9]at hl;have:=Lib.nDigits_pos (m / 10);rw[ef,Lib.decDigits_length]at hl;simp at hl;omega
  ·obtain⟨m,rfl⟩: ∃m:Nat,x= -(m:Int):=⟨(-x).toNat,bu⟩;rw[Fd bu]at h;injection h with h _;exact absurd h cf
 ·intro h;subst h;have:(0:Int)=((0:Nat):Int):=rfl;rw[this,oG,Lib.decDigits_one bu];rfl
def mn {D:List UInt8}(hd: ∀b∈D,bL b=true):Lib.trimPrefix D [45]=D/\Lib.trimPrefix ([45]++D) [45]=D:=by
 constructor
 ·cases D with
  |nil=>rfl|cons c r=>
   have:c≠45:=by rintro rfl;exact absurd (hd _ j7) cf
   have h2:(45 == c)=false:=by simpa using λh:45=c=>this h.symm
   simp[Lib.trimPrefix,Lib.hasPrefix,List.isPrefixOf,h2]
 ·simp[Lib.trimPrefix,Lib.hasPrefix,List.isPrefixOf]
def aaW {whole part digits:List UInt8}{letter:UInt8}{e:Nat}:kP whole part 1 0 e=fG whole part digits letter false e:=by
 unfold kP fG pe gn jq iY;rw[Bm,EY,yL,wb];by_cases h30:30<(gB whole).length+(ei part).length
 ·simp[h30]
 ·simp[h30]
def Kc {whole part:List UInt8}{e m:Nat}(he:(cz false s e).2.2.2=true):(if 3<(cH false s e).length then .error 7 else kP whole part (if(cz false s e).1=68 then 2 else 1) (lh s e) m)=fG whole part (cz false s e).2.1 (cz false s e).1 true m:=by
 have hL:fl false s e=69\/fl false s e=68:=by
  unfold cz at he;split at he
  ·assumption
  ·simp at he
 have hx:cz false s e=(fl false s e,fm false s e++cH false s e,runE false bL s (expStart false s e),!decide (cH false s e=[])):=by unfold cz;rw[bC hL]
 have hne:cH false s e≠[]:=by rw[hx]at he;simpa using he
 have hdig: ∀b∈cH false s e,bL b=true:=uR;rw[hx];simp only;have hlt:e<s.length:=by
  rcases fu e s.length with h|h
  ·exact h
  ·exfalso;unfold fl at hL;rw[fE,eB h]at hL;exact absurd hL cf
 have hE:atE false s e=e+1:=by rw[gu,bC hlt]
 have hS:fm false s e=if atC false s (e+1)=45 then [45]else []:=by unfold fm;rw[hE]
 have hpre:Lib.trimPrefix (fm false s e++cH false s e) [45]=cH false s e:=by
  rw[hS];split
  ·exact(mn hdig).2
  ·exact(mn hdig).1
 unfold fG pe;rw[hpre];by_cases h3:3<(cH false s e).length
 ·simp[h3]
 ·rw[bB h3];have hval:eD (fm false s e++cH false s e)=lh s e:=by
   unfold lh;rw[hS];by_cases h45:atC false s (e+1)=45
   ·rw[bC h45,bC h45];unfold eD;rw[xy,yG hdig hne bu]
   ·rw[bB h45,bB h45];unfold eD;rw[eR,ja hdig hne bu]
  unfold kP gn jq iY;rw[Bm,EY,yL,wb,hval];by_cases h30:30<(gB whole).length+(ei part).length
  ·simp[h30]
  ·have hz:=JN (x:=lh s e);have h3d:decide (3<(cH false s e).length)=false:=by simp[h3]
   have h30d:decide (30<(gB whole).length+(ei part).length)=false:=by simp[h30]
   rw[bB h30,h3d,h30d];simp only[ov,xH,d6,du,ka,cQ];by_cases h68:fl false s e=68
   ·rw[bC h68,bC rfl,bC h68]
   ·rw[bB h68,bB cf,bB h68];by_cases h0:lh s e=0
    ·rw[bB (by simp[h0]),bC (hz.2 h0)]
    ·rw[bC h0,bB (λh=>h0 (hz.1 h))];simp
def WA {c:UInt8}(h:s[n]? =some c)(hc:bL c=true\/(c=46/\bL ((s[n+1]?).getD 0)=true)):qM s n=fa false s n:=by
 have hn:=lE h;have hw:=wU (s:=s) (n:=n) bu;have hwhole:dU false s n=(s.drop n).take (digR s n):=(tN).1;have hrun:runE false bL s n=n+digR s n:=(tN).2;have hdig: ∀b∈dU false s n,bL b=true:=uR;have hwl:(dU false s n).length=digR s n:=by rw[hwhole];simp;omega
 have hdot:(!vV s n&&decide (s[n+digR s n]? =some 46))=e8 false s n:=by
  unfold e8 vV;rw[hrun];by_cases h46:s[n+digR s n]? =some 46
  ·have ha:atC false s (n+digR s n)=46:=by rw[fE,h46];rfl
   rw[X5 ha,ha];have:decide (dU false s n=[])= !decide (0<digR s n):=by
    by_cases h0:0<digR s n
    ·have:dU false s n≠[]:=by intro hh;rw[hh]at hwl;simp at hwl;omega
     simp[h0,this]
    ·have:dU false s n=[]:=iK bu;simp[h0,this]
   rw[this];simp only[h46,iB,t7,ic];cases decide (0<digR s n)<;>cases (dE false s (n+digR s n)).2.2<;>rfl
  ·have ha:atC false s (n+digR s n)≠46:=by
    rw[fE];cases hg:s[n+digR s n]? with|none=>decide|some x=>intro hh;apply h46;rw[hg];simpa using hh
   simp[h46,ha]
 have hdotne:e8 false s n=false->dU false s n≠[]:=by
  intro hf hnil;rcases hc with hc|⟨hc1,hc2⟩
  ·have:digR s n=0:=by rw[<-hwl,hnil];rfl
   unfold digR at this;rw[dY hn,lx]at this;rw[dK hn]at h;injection h with h;rw[h,hc]at this;simp at this
  ·unfold e8 at hf;have h0:digR s n=0:=by rw[<-hwl,hnil];rfl
   have ha:atC false s (n+digR s n)=46:=by rw[h0,j8,fE,h,hc1];rfl
   rw[hrun,ha,hnil]at hf;simp at hf
 unfold qM fa;rw[hdot,<-hwhole];cases hD:e8 false s n with
 |true=>
  have hlt:n+digR s n<s.length:=by have:=hdot;rw[hD,cE,dA]at this;exact lE this.2
  have hE:atE false s (n+digR s n)=n+digR s n+1:=by rw[gu,bC hlt]
  have hend:numEnd false s n=n+digR s n+1+digR s (n+digR s n+1):=by unfold numEnd;rw[bC hD,hrun,hE];exact(tN).2
  have hpart:gl false s n=(s.drop (n+digR s n+1)).take (digR s (n+digR s n+1)):=by unfold gl;rw[bC hD,hrun,hE];exact(tN).1
  rw[bC rfl,<-hend,<-hpart];simp only[cS,ov,d6,du];unfold qL;cases hq:(cz false s (numEnd false s n)).2.2.2 with|true=>rw[bC rfl];simp only[cQ];exact Kc hq|false=>rw[bB bE,bC rfl];exact aaW
 |false=>
  have hend:numEnd false s n=n+digR s n:=by unfold numEnd;rw[bB (by rw[hD];simp),hrun]
  have hpart:gl false s n=[]:=by unfold gl;rw[bB (by rw[hD];simp)]
  rw[bB bE,<-hend,hpart];unfold qL;have hq1: ∀{α:Type} {x y:α},(cz false s (numEnd false s n)).2.2.2=true->(if(!false&& !(cz false s (numEnd false s n)).2.2.2)=true then x else y)=y:=by intro α x y h;rw[h];rfl
  have hq2: ∀{α:Type} {x y:α},(cz false s (numEnd false s n)).2.2.2=false->(if(!false&& !(cz false s (numEnd false s n)).2.2.2)=true then x else y)=x:=by intro α x y h;rw[h];rfl
  cases hq:(cz false s (numEnd false s n)).2.2.2 with|true=>simp only[hq,c8,cS,Jg,d6,du,cQ];exact Kc hq|false=>simp only[hq,c8,t7,d6,du,cQ];exact agm hdig (hdotne hD) _
end
section
variable {μ:Mu}{s:List UInt8}
def Pf {x y:UInt8}:decide ((x.toNat:Int)=(y.toNat:Int))=decide (x=y):=by
 by_cases h:x=y
 ·subst h;simp
 ·have:x.toNat≠y.toNat:=λe=>h (sM e);simp[h];omega
def rV (t:List UInt8)(e:Nat):Except Int (Tok×Nat):=if 60<t.length then .error 8 else .ok (⟨1,6,dZ t⟩,e)
noncomputable def Gs (μ:Mu)(acc:List UInt8)(i:Nat)(a b c d:Int)(t:List UInt8):Option (List UInt8×Nat)->St
 |none=>AX a b t c d μ|some (x,k)=>stN μ AW (rV (acc++x) (i+k))
def ag9 (hs:s.length<=200000){q:UInt8}{a b c d:Int}{t:List UInt8}: ∀(k i:Nat) (acc:List UInt8),s.length-i<=k->i<=s.length->acc.length<=i->
 FQ (ev E) s (q.toNat:Int) acc (i:Int) a b t c d μ=some (Gs μ acc i a b c d t (eI q (s.drop i))):=by
 intro k
 induction k using Nat.strongRecOn with
 |_ k ih=>
  intro i acc hk hi ha;by_cases hlt:i<s.length
  ·have hd:=dY hlt;refine cC ?_;rw[NF,ie hlt,bH,eT hlt,bx,Pf,dy bu,abX hlt,bx,dV b7,cK,hd];by_cases hq:s[i]=q
   ·have hq1:decide (s[i]=q)=true:=by simp[hq]
    rw[hq1,cS,bI,hq];have h11: ∀{i:Nat},i<s.length->(opt (CF (ev E) acc (i:Int) a b t c d μ) (kS (ev E) mF [] [(0,0),(4,0),(5,0),(6,0),(7,0)]))=some (stN μ u7 (rV acc (i+1))):=by
     intro i hlt;have:CF (ev E) acc (i:Int) a b t c d μ=some (stN μ sY (rV acc (i+1))):=by
      refine ck ?_;rw[Z4];unfold rV;by_cases h60:60<acc.length
      ·have:decide ((60:Int)<(acc.length:Int))=true:=b7;rw[this,bH,bC h60];rfl
      ·have:decide ((60:Int)<(acc.length:Int))=false:=b7;have hG:R6 (ev E) acc (i:Int) a b t c d μ=some (x6 1 6 (dZ acc) ((i+1:Nat):Int) 0 μ):=by refine ck ?_;rw[Z5,agF bu];simp only[bQ];rw[dy bu]
       rw[this,bI,bB h60,hG,bx,N2];rfl
     rw[this,bx];cases rV acc (i+1)with|ok q=>exact BZ _ _ _ _ _ _ _|error e=>exact BZ _ _ _ _ _ _ _
    by_cases hlt2:i+1<s.length/\s[i+1]? =some q
    ·obtain⟨h2,h3⟩:=hlt2;have hd2:=dY h2;have hg2:s[i+1]=q:=by rw[dK h2]at h3;simpa using h3
     have hG:K9 (ev E) s (q.toNat:Int) acc (i:Int) a b t c d μ=some (Af s (q.toNat:Int) (acc++[q]) ((i+1:Nat):Int) a b t c d μ):=by refine ck ?_;have hq2:decide (q=q)=true:=bE;rw[Np,dy bu,ie h2,bH,eT h2,bx,Pf,hg2,hq2,bH,abX hlt,bx,dV b7,cK,hq]
     rw[hG,bx,P1,dy bu,ih (s.length-(i+1+1)) bu (i+1+1) (acc++[q]) (ct _) bu b7,hd2,hg2,pb];cases eI q (s.drop (i+1+1))with|none=>rfl|some x=>simp only[Gs,gN];have e1:i+1+1+x.2=i+(x.2+2):=bu;rw[e1];simp
    ·have hne: ∀d u,s.drop (i+1)=d::u->d≠q:=by
      intro d u hdu hdq;apply hlt2;have h2:i+1<s.length:=by
       rcases fu (i+1) s.length with h|h
       ·exact h
       ·rw[dS h]at hdu;cases hdu
      refine⟨h2,?_⟩;rw[dY h2]at hdu;injection hdu with hdu _;rw[dK h2,hdu,hdq]
     have hG:K9 (ev E) s (q.toNat:Int) acc (i:Int) a b t c d μ=some (stN μ u7 (rV acc (i+1))):=by
      refine ck ?_;rw[Np,dy bu];by_cases h2:i+1<s.length
      ·have h3:s[i+1]≠q:=λh=>hlt2 ⟨h2,by rw[dK h2,h]⟩;have h4:decide (s[i+1]=q)=false:=by simp[h3]
       rw[ie h2,bH,eT h2,bx,Pf,h4,bI,h11 hlt]
      ·rw[iG bu,bI,h11 hlt]
     rw[hG,bx,o9 hne];simp only[Gs,fy];cases rV acc (i+1)with|ok q=>exact DO _ _ _ _ _ _ _|error e=>exact DO _ _ _ _ _ _ _
   ·have hq1:decide (s[i]=q)=false:=by simp[hq]
    rw[hq1,c8,bH,ih (s.length-(i+1)) bu (i+1) (acc++[s[i]]) (ct _) bu b7,qU hq];cases eI q (s.drop (i+1))with|none=>rfl|some x=>simp only[Gs,gN];have e1:i+1+x.2=i+(x.2+1):=bu;rw[e1];simp
  ·refine cC ?_;rw[NF,iG bu,bI,dS bu];rfl
def agu (hs:s.length<=200000){n:Nat}(hn:n<s.length):(ev E).call 111 [LV.str s,bv (n:Int)] μ=some (.ret (.cv (su (gd s n))) μ):=by
 refine bW ?_;rw[aiy,eT hn,bx,dy bu,ag9 hs (s.length-(n+1)) (n+1) [] (ct _) bu bE,bx];unfold gd;rw[dK hn,ia];cases hq:eI s[n] (s.drop (n+1))with
 |none=>exact Q6 _ _ _ _ _ _ _|some x=>
  obtain⟨t,k⟩:=x;simp only[Gs,eR];unfold rV;by_cases h60:60<t.length
  ·rw[bC h60];exact D1 _ _ _ _ _ _ _
  ·rw[bB h60];exact D1 _ _ _ _ _ _ _
def ag8 (hs:s.length<=200000){n:Nat}{a b c d:Int}{t:List UInt8}: ∀(k i:Nat),i+k=s.length->
 CK (ev E) s (n:Int) (i:Int) a b t c d μ=some (uq s (n:Int) ((i+((s.drop i).takeWhile cX).length:Nat):Int) a b t c d μ):=by
 have e95: ∀c:UInt8,decide ((c.toNat:Int)=95)=decide (c.toNat=95):=λc=>by simp;omega
 intro k
 induction k with
 |zero=>intro i hi;refine cC ?_;rw[T9,iG bu,bI,dS bu];rfl|succ k ih=>
  intro i hi;have hlt:i<s.length:=bu;have hy: ∀{q:Bool},cX s[i]=q->(q=true->CK (ev E) s (n:Int) ((i+1:Nat):Int) a b t c d μ=some (uq s (n:Int) ((i+((s.drop i).takeWhile cX).length:Nat):Int) a b t c d μ))/\(q=false->i+((s.drop i).takeWhile cX).length=i):=by
   intro q hq;rw[dY hlt,lx,hq];constructor
   ·intro h;rw[ih (i+1) bu,h];simp only[cQ,dz];congr 3;omega
   ·intro h;rw[h];rfl
  refine cC ?_;rw[T9,ie hlt,bH,eT hlt,bx,Zh];simp only[bQ,e95];rw[dy bu];have hp:cX s[i]=(cM s[i]||bL s[i]||decide (s[i].toNat=95)):=rfl;cases h1:cM s[i]with
  |true=>rw[bH];exact(hy (by rw[hp,h1];rfl)).1 rfl|false=>
   rw[bI,GL];simp only[bQ];cases h2:bL s[i]with
   |true=>rw[bH];exact(hy (by rw[hp,h1,h2];rfl)).1 rfl|false=>
    rw[bI];cases h3:decide (s[i].toNat=95)with|true=>rw[bH];exact(hy (by rw[hp,h1,h2,h3];rfl)).1 rfl|false=>rw[bI,(hy (q:=false) (by rw[hp,h1,h2,h3];rfl)).2 rfl]
def sV:List (List UInt8×List UInt8):=[([60,61],[46,76,69,46]),([62,61],[46,71,69,46]),([61,61],[46,69,81,46]),([47,61],[46,78,69,46]),([60],[46,76,84,46]),([62],[46,71,84,46])]
def Cr (l:List (List UInt8×List UInt8)):List CV:=l.map λx=>CV.agg [CV.str x.1,CV.str x.2]
def toE:Except Int (Tok×Nat)->Nat
 | .ok q=>q.2| .error _=>0
def kc (s:List UInt8)(n:Nat):List (List UInt8×List UInt8)->Except Int (Tok×Nat)->Except Int (Tok×Nat)
 |[],r=>r|x::l,r=>kc s n l (if dH s n x.1=true/\toE r<n+x.1.length then .ok (⟨2,0,x.2⟩,n+x.1.length)else r)
def stB {α:Sort _}(X:Int->Int->List UInt8->Int->Int->α):Except Int (Tok×Nat)->α
 | .ok q=>X q.1.kind q.1.type q.1.text (q.2:Int) 0| .error e=>X 0 0 [] 0 e
def ZL (hs:s.length<=200000){n:Nat}(hn:n<=s.length){a b c d:Int}{t:List UInt8}{l:List (List UInt8×List UInt8)}(hl:l.length<=100)(hw: ∀x∈l,x.1.length<=100): ∀(k j:Nat) (r:Except Int (Tok×Nat)),j+k=l.length->
 stB (λp q u v w=>z8 (ev E) s (n:Int) (Cr l) (l.length:Int) (j:Int) a b t c d p q u v w μ) r=some (stB (λp q u v w=>Bh s (n:Int) a b t c d p q u v w μ) (kc s n (l.drop j) r)):=by
 intro k
 induction k with
 |zero=>
  intro j r hj;rw[dS bu];cases r with|ok q=>refine cC ?_;rw[zi,iG bu,bI];rfl|error e=>refine cC ?_;rw[zi,iG bu,bI];rfl
 |succ k ih=>
  intro j r hj;have hlt:j<l.length:=bu;have hg:cT (Cr l) (j:Int)=some (CV.agg [CV.str l[j].1,CV.str l[j].2]):=by rw[eJ];simp[Cr,hlt]
  have hrd: ∀{β:Type} {k:List UInt8->List UInt8->Option β},aei (LV.cv (CV.agg [CV.str l[j].1,CV.str l[j].2])) k=k l[j].1 l[j].2:=rfl;have hwl:=hw _ (md hlt);rw[dY hlt,kc];have hih:=λr=>ih (j+1) r bu;cases r with
  |ok q=>
   refine cC ?_;rw[zi,ie hlt,bH,hg,bx,hrd,uF hs hn bu];simp only[bQ];rw[dy bu,my bu];cases hb:dH s n l[j].1 with
   |false=>rw[bI,bB bE];exact hih (.ok q)|true=>
    rw[bH];by_cases h2:q.2<n+l[j].1.length
    ·rw[ie h2,bH,bC ⟨rfl,h2⟩];exact hih (.ok (⟨2,0,l[j].2⟩,n+l[j].1.length))
    ·rw[iG bu,bI,bB (λh=>h2 h.2)];exact hih (.ok q)
  |error e=>
   refine cC ?_;rw[zi,ie hlt,bH,hg,bx,hrd,uF hs hn bu];simp only[bQ];rw[dy bu,my bu];cases hb:dH s n l[j].1 with
   |false=>rw[bI,bB bE];exact hih (.error e)|true=>
    rw[bH];by_cases h2:0<n+l[j].1.length
    ·have:=ie h2;have e0:((0:Nat):Int)=0:=rfl;rw[e0]at this;rw[this,bH,bC ⟨rfl,h2⟩];exact hih (.ok (⟨2,0,l[j].2⟩,n+l[j].1.length))
    ·have:=iG (n:=0) (m:=n+l[j].1.length) bu;have e0:((0:Nat):Int)=0:=rfl;rw[e0]at this;rw[this,bI,bB (λh=>h2 h.2)];exact hih (.error e)
def tE (l:List (List UInt8)):List (List UInt8×List UInt8):=l.map λx=>(x,x)
def ZM (hs:s.length<=200000){n:Nat}(hn:n<=s.length){a b c d:Int}{t:List UInt8}{l:List (List UInt8)}(hl:l.length<=100)(hw: ∀x∈l,x.length<=100): ∀(k j:Nat) (r:Except Int (Tok×Nat)),j+k=l.length->
 stB (λp q u v w=>wH (ev E) s (n:Int) (dh l) (l.length:Int) (j:Int) a b t c d p q u v w μ) r=some (stB (λp q u v w=>rQ a b t c d p q u v w μ) (kc s n (tE (l.drop j)) r)):=by
 intro k
 induction k with
 |zero=>
  intro j r hj;rw[dS bu];cases r with|ok q=>refine cC ?_;rw[zj,iG bu,bI];rfl|error e=>refine cC ?_;rw[zj,iG bu,bI];rfl
 |succ k ih=>
  intro j r hj;have hlt:j<l.length:=bu;have hg:cT (dh l) (j:Int)=some (CV.str l[j]):=by rw[eJ];simp[dh,hlt]
  have hwl:=hw _ (md hlt);have hsel:tE (l[j]::l.drop (j+1))=(l[j],l[j])::tE (l.drop (j+1)):=rfl;rw[dY hlt,hsel,kc];have hih:=λr=>ih (j+1) r bu;cases r with
  |ok q=>
   refine cC ?_;rw[zj,ie hlt,bH,hg,bx,mV,bx,uF hs hn bu];simp only[bQ];rw[dy bu,my bu];cases hb:dH s n l[j]with
   |false=>rw[bI,bB bE];exact hih (.ok q)|true=>
    rw[bH];by_cases h2:q.2<n+l[j].length
    ·rw[ie h2,bH,bC ⟨rfl,h2⟩];exact hih (.ok (⟨2,0,l[j]⟩,n+l[j].length))
    ·rw[iG bu,bI,bB (λh=>h2 h.2)];exact hih (.ok q)
  |error e=>
   refine cC ?_;rw[zj,ie hlt,bH,hg,bx,mV,bx,uF hs hn bu];simp only[bQ];rw[dy bu,my bu];cases hb:dH s n l[j]with
   |false=>rw[bI,bB bE];exact hih (.error e)|true=>
    rw[bH];by_cases h2:0<n+l[j].length
    ·have:=ie h2;have e0:((0:Nat):Int)=0:=rfl;rw[e0]at this;rw[this,bH,bC ⟨rfl,h2⟩];exact hih (.ok (⟨2,0,l[j]⟩,n+l[j].length))
    ·have:=iG (n:=0) (m:=n+l[j].length) bu;have e0:((0:Nat):Int)=0:=rfl;rw[e0]at this;rw[this,bI,bB (λh=>h2 h.2)];exact hih (.error e)
def M5:(ev E).call 113 [] μ=some (.ret (LV.osl (dh dl)) μ):=bW (by rw[aiA];rfl)
def agv:(ev E).call 112 [] μ=some (.ret (LV.osl (Cr sV)) μ):=bW (by rw[aiz];rfl)
def yI (s:List UInt8)(n:Nat):Except Int (Tok×Nat):=kc s n (tE dl) (kc s n sV (.error 7))
def adk (hs:s.length<=200000){n:Nat}(hn:n<=s.length){a b c d:Int}{t:List UInt8}:XA (ev E) s (n:Int) a b t c d μ=some (stN μ vt (yI s n)):=by
 refine ck ?_;rw[acU,agv];simp only[bQ];have h1:=ZL (μ:=μ) hs hn (a:=a) (b:=b) (c:=c) (d:=d) (t:=t) (l:=sV) cf cf sV.length 0 (.error 7) bu;have e0:((0:Nat):Int)=0:=rfl;have e1:(Cr sV).length=sV.length:=rfl;have e2:(dh dl).length=dl.length:=rfl;rw[e0,d7]at h1;simp only[stB]at h1;have h2: ∀r,stB (λp q u v w=>wH (ev E) s (n:Int) (dh dl) (dl.length:Int) 0 a b t c d p q u v w μ) r=some (stB (λp q u v w=>rQ a b t c d p q u v w μ) (kc s n (tE dl) r)):=by intro r;have:=ZM (μ:=μ) hs hn (a:=a) (b:=b) (c:=c) (d:=d) (t:=t) (l:=dl) cf cf dl.length 0 r bu;rw[e0,d7]at this;exact this
 rw[e1,h1,bx];unfold yI;have h3:=h2 (kc s n sV (.error 7));have fin: ∀r,kS (ev E) H63 [.block 9,.seq (cN 63 127)] [(4,0)] (stB (λp q u v w=>rQ a b t c d p q u v w μ) r)=some (stN μ vt r):=by
  intro r;cases r with|ok q=>exact D5 _ _ _ _ _ _ _ _ _ _ _ _|error e=>exact D5 _ _ _ _ _ _ _ _ _ _ _ _
 cases hr:kc s n sV (.error 7)with|ok q=>rw[hr]at h3;simp only[stB]at h3 |-;rw[D4,M5];simp only[bQ];rw[e2,h3,bx];exact fin _|error e=>rw[hr]at h3;simp only[stB]at h3 |-;rw[D4,M5];simp only[bQ];rw[e2,h3,bx];exact fin _
def KS (s:List UInt8)(n:Nat)(l:List (List UInt8))(kind type:Int)(els:Except Int (Tok×Nat)):Except Int (Tok×Nat):=
 match l.find? (dH s n)with|some w=> .ok (⟨kind,type,w⟩,n+w.length)|none=>els
def ZJ (hs:s.length<=200000){n:Nat}(hn:n<=s.length){a b c d:Int}{t:List UInt8}{l:List (List UInt8)}(hl:l.length<=100)(hw: ∀x∈l,x.length<=100): ∀(k j:Nat),j+k=l.length->
 LJ (ev E) s (n:Int) (dh l) (l.length:Int) (j:Int) a b t c d μ=some (match(l.drop j).find? (dH s n)with|some w=>Bd 2 0 w ((n+w.length:Nat):Int) 0 μ|none=>Be s (n:Int) a b t c d μ):=by
 intro k
 induction k with
 |zero=>intro j hj;refine cC ?_;rw[NT,iG bu,bI,dS bu];rfl|succ k ih=>
  intro j hj;have hlt:j<l.length:=bu;have hg:cT (dh l) (j:Int)=some (CV.str l[j]):=by rw[eJ];simp[dh,hlt]
  have hwl:=hw _ (md hlt);refine cC ?_;rw[NT,ie hlt,bH,hg,bx,mV,bx,uF hs hn bu];simp only[bQ];rw[dy bu,my bu,ih (j+1) bu,dY hlt,List.find?_cons];cases hb:dH s n l[j]<;>rfl
def ZK (hs:s.length<=200000){n:Nat}(hn:n<=s.length){a b c d:Int}{t:List UInt8}{l:List (List UInt8)}(hl:l.length<=100)(hw: ∀x∈l,x.length<=100): ∀(k j:Nat),j+k=l.length->
 LK (ev E) s (n:Int) (dh l) (l.length:Int) (j:Int) a b t c d μ=some (match(l.drop j).find? (dH s n)with|some w=>Bf 1 5 w ((n+w.length:Nat):Int) 0 μ|none=>Bg a b t c d μ):=by
 intro k
 induction k with
 |zero=>intro j hj;refine cC ?_;rw[NU,iG bu,bI,dS bu];rfl|succ k ih=>
  intro j hj;have hlt:j<l.length:=bu;have hg:cT (dh l) (j:Int)=some (CV.str l[j]):=by rw[eJ];simp[dh,hlt]
  have hwl:=hw _ (md hlt);refine cC ?_;rw[NU,ie hlt,bH,hg,bx,mV,bx,uF hs hn bu];simp only[bQ];rw[dy bu,my bu,ih (j+1) bu,dY hlt,List.find?_cons];cases hb:dH s n l[j]<;>rfl
def Df (s:List UInt8)(n:Nat):Except Int (Tok×Nat):=KS s n ek 2 0 (KS s n [kh,jh] 1 5 (.error 7))
def KW (s:List UInt8)(n:Nat)(c:UInt8):Except Int (Tok×Nat):=
 if cM c then(if 31<((s.drop n).takeWhile cX).length then .error 4 else .ok (⟨0,0,((s.drop n).takeWhile cX).map upB⟩,n+((s.drop n).takeWhile cX).length))
 else if bL c||(decide (c=46)&&bL ((s[n+1]?).getD 0))then qM s n
 else if c=46 then Df s n
 else if c=39\/c=34 then gd s n
 else yI s n
def vQ {β:Type}{q:Except Int (Tok×Nat)}{k:Int->Int->List UInt8->Int->Int->Option β}:Hj (.cv (su q)) k=stB k q:=by cases q<;>rfl
def adj (hs : s.length <= 200000) {n : Nat} (hn : n < s.length) {x : Bool} {a b c d : Int} {t : List UInt8} : wC (ev E) s (n : Int) (s[n].toNat : Int) x a b t c d μ = some (
 if x=true then stN μ g0 (qM s n)else if s[n]=46 then stN μ g0 (Df s n)else if s[n]=39\/s[n]=34 then stN μ g0 (gd s n)else AP s (n:Int) a b t c d μ):=by
 have e46: ∀c:UInt8,decide ((c.toNat:Int)=46)=decide (c=46):=λc=>eZ (k:=46) bu;have e39: ∀c:UInt8,decide ((c.toNat:Int)=39)=decide (c=39):=λc=>eZ (k:=39) bu;have e34: ∀c:UInt8,decide ((c.toNat:Int)=34)=decide (c=34):=λc=>eZ (k:=34) bu;have hst: ∀(q:Except Int (Tok×Nat)),stB (λp q u v w=>some (g0 p q u v w μ)) q=some (stN μ g0 q):=by intro q;cases q<;>rfl
 refine ck ?_;rw[acT,agt hs bu,e46,e39,e34,agu hs hn,bV,bV,vQ,vQ,hst,hst];cases x with
 |true=>rw[bH,bC rfl]|false=>
  rw[bI,bB bE];by_cases h46:s[n]=46
  ·have:decide (s[n]=46)=true:=by simp[h46]
   rw[this,bH,bC h46,M4];simp only[bQ];have e2:(dh ek).length=ek.length:=rfl;have e0:((0:Nat):Int)=0:=rfl;have h14:=ZJ (μ:=μ) hs (xK hn) (a:=a) (b:=b) (c:=c) (d:=d) (t:=t) (l:=ek) cf cf ek.length 0 bu;rw[e0,d7]at h14;have h20:=ZK (μ:=μ) hs (xK hn) (a:=a) (b:=b) (c:=c) (d:=d) (t:=t) (l:=[kh,jh]) cf cf 2 0 bE;rw[e0,d7]at h20;rw[e2,h14,bx];unfold Df KS;cases hf:ek.find? (dH s n)with
   |some w=>simp only;rw[Rx];rfl|none=>
    simp only;have e3:[CV.str ([46,84,82,85,69,46]:List UInt8),CV.str ([46,70,65,76,83,69,46]:List UInt8)]=dh [kh,jh]:=rfl;have e4:(2:Int)=(([kh,jh]:List (List UInt8)).length:Int):=rfl;rw[Ry,e3];rw[<-e4]at h20;rw[h20,bx];cases hf2:([kh,jh]:List (List UInt8)).find? (dH s n)with|some w=>simp only;rw[Rz];rfl|none=>simp only;rw[RA];rfl
  ·have:decide (s[n]=46)=false:=by simp[h46]
   rw[this,bI,bB h46];by_cases h39:s[n]=39
   ·simp[h39]
   ·by_cases h34:s[n]=34
    ·simp[h34]
    ·simp[h39,h34]
def adZ (hs:s.length<=200000){n:Nat}(hn:n<s.length):(ev E).call 63 [LV.str s,bv (n:Int)] μ=some (.ret (.cv (su (KW s n s[n]))) μ):=by
 have e46: ∀c:UInt8,decide ((c.toNat:Int)=46)=decide (c=46):=λc=>eZ (k:=46) bu;refine bW ?_;rw[akP,eT hn,bx,Zh];simp only[bQ];unfold KW;cases hlet:cM s[n]with
 |true=>
  have htw:((s.drop n).takeWhile cX).length<=s.length-n:=by have:=(List.takeWhile_sublist cX (l:=s.drop n)).length_le;rw[fY]at this;exact this
  rw[bH,ag8 hs (s.length-n) n bu,bx,Wt,alj bu bu];have e1:n+((s.drop n).takeWhile cX).length-n=((s.drop n).takeWhile cX).length:=bu;rw[e1,bC rfl];by_cases h31:31<((s.drop n).takeWhile cX).length
  ·have:decide ((31:Int)<(((s.drop n).takeWhile cX).length:Int))=true:=b7;rw[this,bH,bC h31];rfl
  ·have:decide ((31:Int)<(((s.drop n).takeWhile cX).length:Int))=false:=b7;have hcut:(s.drop n).take ((s.drop n).takeWhile cX).length=(s.drop n).takeWhile cX:=(IY.1 (xP _)).symm;have hG: ∀{a b c d:Int} {t:List UInt8},adK (ev E) s (n:Int) ((n+((s.drop n).takeWhile cX).length:Nat):Int) a b t c d μ=some (EC 0 0 (((s.drop n).takeWhile cX).map upB) ((n+((s.drop n).takeWhile cX).length:Nat):Int) 0 μ):=by intro a b c d t;refine ck ?_;rw[afq,ku bu bu,bx,e1,hcut,Zi bu];simp only[bQ]
   rw[this,bI,bB h31,hG,bx,Wb];rfl
 |false=>
  rw[bI,GL];simp only[bQ,d6,du,e46];have hfin: ∀{x:Bool} {a b c d:Int} {t:List UInt8},(bL s[n]||(decide (s[n]=46)&&bL ((s[n+1]?).getD 0)))=x->(opt (wC (ev E) s (n:Int) (s[n].toNat:Int) x a b t c d μ) (kB (ev E) 63 H63 [.block 0,.seq (cN 63 15)]))=
   some (.ret (.cv (su (if(bL s[n]||(decide (s[n]=46)&&bL ((s[n+1]?).getD 0)))=true then qM s n else if s[n]=46 then Df s n else if s[n]=39\/s[n]=34 then gd s n else yI s n))) μ):=by
   intro x a b c d t hx;have f0: ∀q:Except Int (Tok×Nat),kB (ev E) 63 H63 [.block 0,.seq (cN 63 15)] (stN μ g0 q)=some (.ret (.cv (su q)) μ):=by
    intro q;cases q with|ok q=>exact DZ _ _ _ _ _ _ _|error e=>exact DZ _ _ _ _ _ _ _
   rw[adj hs hn,bx,hx];cases x with
   |true=>rw[bC rfl,bC rfl,f0]|false=>
    simp only[d6,du];by_cases h46:s[n]=46
    ·rw[bC h46,bC h46,f0]
    ·rw[bB h46,bB h46];by_cases hq:s[n]=39\/s[n]=34
     ·rw[bC hq,bC hq,f0]
     ·rw[bB hq,bB hq,QX,adk hs bu,bx];cases yI s n with|ok q=>exact D0 _ _ _ _ _ _ _|error e=>exact D0 _ _ _ _ _ _ _
  cases hdig:bL s[n]with
  |true=>rw[bH];have:=hfin (x:=true) (a:=0) (b:=0) (c:=0) (d:=0) (t:=[]) (by rw[hdig];rfl);rw[hdig]at this;exact this|false=>
   rw[bI];by_cases h46:s[n]=46
   ·have h1:decide (s[n]=46)=true:=by simp[h46]
    rw[h1,bH,dy bu];by_cases h2:n+1<s.length
    ·rw[ie h2,bH,eT h2,bx,GL];simp only[bQ];have hg:(s[n+1]?).getD 0=s[n+1]:=by rw[dK h2];rfl
     have:=hfin (x:=bL s[n+1]) (a:=0) (b:=0) (c:=0) (d:=0) (t:=[]) (by rw[hdig,h1,hg];rfl);rw[hdig,h1]at this;exact this
    ·have hg:bL ((s[n+1]?).getD 0)=false:=by rw[eB bu];rfl
     rw[iG bu,bI];have:=hfin (x:=false) (a:=0) (b:=0) (c:=0) (d:=0) (t:=[]) (by rw[hdig,h1,hg];rfl);rw[hdig,h1]at this;exact this
   ·have h1:decide (s[n]=46)=false:=by simp[h46]
    rw[h1,bI];have:=hfin (x:=false) (a:=0) (b:=0) (c:=0) (d:=0) (t:=[]) (by rw[hdig,h1];rfl);rw[hdig,h1]at this;exact this
end
def nv:Except Int (Tok×Nat×List Nat)->Except Int (Tok×Nat)
 | .ok q=> .ok (q.1,q.2.1)| .error e=> .error e
section
variable {s:List UInt8}{n:Nat}
def MJ (q:Except Int (Tok×Nat)):nv (noK q)=q:=by cases q<;>rfl
def lf:nv (iE s n)=gd s n:=by unfold iE;cases gd s n<;>rfl
def rE: ∀w∈ek,w≠kh/\w≠jh:=cf
def re {w:List UInt8}(hw:w∈eA)(hb:dH s n w=true):w=fM false s n:=((lX (oq w hw) hb).2.1).symm
def JG {l:List (List UInt8)}{p:List UInt8->Bool}{w:List UInt8}(hm:w∈l)(hp:p w=true)(hu: ∀x∈l,p x=true->x=w):l.find? p=some w:=by
 cases hf:l.find? p with|none=>rw[List.find?_eq_none]at hf;exact absurd hp (hf w hm)|some x=>have h1:=List.find?_some hf;have h2:=List.mem_of_find?_eq_some hf;rw[hu x h2 h1]
def Bw {l:List (List UInt8)}{p:List UInt8->Bool}(h: ∀x∈l,p x=false):l.find? p=none:=by rw[List.find?_eq_none];intro x hx;rw[h x hx];simp
def o8 {w:List UInt8}(h:w∈ek):w∈eA:=by rw[mv];exact af1 _ h
def sf {w:List UInt8}(h:w∈([kh,jh]:List (List UInt8))):w∈eA:=by rw[mv];exact Uv _ h
def afZ (h:atC false s n=46):Df s n=if(dE false s n).2.2 then .ok (fC (dE false s n).1,(dE false s n).2.1)else .error 7:=by
 have e:dE false s n=(fM false s n,dotEnd false s n,jb false s n):=by unfold dE;rw[bC h]
 have hany:=X5 h;rw[e]at hany |-;simp only at hany |-;unfold Df KS;cases hok:jb false s n with
 |false=>
  rw[hok]at hany;have hno: ∀w∈eA,dH s n w=false:=by
   intro w hw;cases hb:dH s n w with|false=>rfl|true=>have:eA.any (dH s n)=true:=xD.2 ⟨w,hw,hb⟩;rw[hany]at this;cases this
  rw[Bw (λx hx=>hno x (o8 hx)),Bw (λx hx=>hno x (sf hx))];rfl
 |true=>
  rw[hok]at hany;rw[xD]at hany;obtain⟨w,hw,hb⟩:=hany;have hT:=re hw hb;have hE:=(lX (oq w hw) hb).2.2.2;rw[<-hT,hE];rw[mv,gt]at hw;simp only[cQ];rcases hw with hw|hw
  ·rw[JG hw hb (λx hx hp=>by rw[re (o8 hx) hp,<-hT])];have:=rE w hw;unfold fC;rw[bB (by intro hh;rcases hh with hh|hh;exact this.1 hh;exact this.2 hh)]
  ·rw[Bw (λx hx=> ?_),JG hw hb (λx hx hp=>by rw[re (sf hx) hp,<-hT])]
   ·unfold fC;rw[bC (by simpa using hw)]
   ·cases hbx:dH s n x with
    |false=>rfl|true=>
     have h1:=re (o8 hx) hbx;rw[<-hT]at h1;have:=rE x hx;rw[h1]at this;simp only[ed,sJ,pk]at hw;rcases hw with hw|hw
     ·exact absurd hw this.1
     ·exact absurd hw this.2
def DJ {c:UInt8}(h:cX c=true):c.toNat<128:=by
 unfold cX at h;simp only[gO,dA]at h;rcases h with(h|h)|h
 ·exact rn h
 ·have:=fP.1 h;omega
 ·omega
def abo:up (fc false cX s n)=((s.drop n).takeWhile cX).map upB:=by rw[gz uD];exact q5 _ λb hb=>DJ (ky _ b hb)
def beg (c:UInt8)(d:Option UInt8):List UInt8->Bool
 |[x]=>decide (c=x)|[x,y]=>decide (c=x)&&decide (d=some y)|_=>false
def Ph: ∀i:Fin 256,cM (UInt8.ofNat i.val)=false->upB (UInt8.ofNat i.val)=UInt8.ofNat i.val:=cf
def Pg {c:UInt8}(h:cM c=false):upB c=c:=by have:=Ph ⟨c.toNat,c.toNat_lt⟩;simpa[h]using this
def Pi: ∀i:Fin 256,∀y∈([61,42,47,62]:List UInt8),(upB (UInt8.ofNat i.val)=y↔UInt8.ofNat i.val=y):=cf
def adx {c y:UInt8}(hy:y∈([61,42,47,62]:List UInt8)):upB c=y↔c=y:=by have:=Pi ⟨c.toNat,c.toNat_lt⟩ y hy;simpa using this
def aeA {c x:UInt8}(h:s[n]? =some c)(hl:cM c=false):dH s n [x]=beg c s[n+1]? [x]:=by have hn:=lE h;rw[dK hn]at h;injection h with h;unfold dH beg;rw[dY hn,h];simp only[List.length_singleton,xA,List.take_zero,dr,iA,Pg hl];have:decide (n+1<=s.length)=true:=b7;rw[this,ic];simp
def aeB {c x y:UInt8}(h:s[n]? =some c)(hl:cM c=false)(hy:y∈([61,42,47,62]:List UInt8)):dH s n [x,y]=beg c s[n+1]? [x,y]:=by
 have hn:=lE h;rw[dK hn]at h;injection h with h;unfold dH beg;simp only[dz,fL];by_cases h2:n+1<s.length
 ·have:decide (n+(0+1+1)<=s.length)=true:=b7;rw[this,ic,dY hn,dY h2,dK h2,h];simp only[xA,List.take_zero,dr,iA,Pg hl];have:=adx (c:=s[n+1]) hy;by_cases h3:s[n+1]=y
  ·rw[this.2 h3,h3];simp
  ·have h4:upB s[n+1]≠y:=λhh=>h3 (this.1 hh);simp[h3,h4]
 ·have:decide (n+(0+1+1)<=s.length)=false:=b7;rw[this,eB bu];simp
def Bi:List (List UInt8×List UInt8):=sV++tE dl
def Y6 (l m:List (List UInt8×List UInt8)): ∀r,kc s n (l++m) r=kc s n m (kc s n l r):=by
 induction l with|nil=>intro r;rfl|cons x l ih=>intro r;rw[eH,kc,kc,ih]
def CY (c:UInt8)(d:Option UInt8)(n:Nat):List (List UInt8×List UInt8)->Except Int (Tok×Nat)->Except Int (Tok×Nat)
 |[],r=>r|x::l,r=>CY c d n l (if beg c d x.1=true/\toE r<n+x.1.length then .ok (⟨2,0,x.2⟩,n+x.1.length)else r)
def Ue (x:List UInt8):Bool:=match x with|[_]=>true|[_,y]=>([61,42,47,62]:List UInt8).contains y|_=>false
def MR {c:UInt8}(h:s[n]? =some c)(hl:cM c=false): ∀(l:List (List UInt8×List UInt8)) (r:Except Int (Tok×Nat)),(∀x∈l,Ue x.1=true)->kc s n l r=CY c s[n+1]? n l r
 |[],r,_=>rfl|x::l,r,hs=>by
  have hx:=hs x j7;have hb:dH s n x.1=beg c s[n+1]? x.1:=by
   obtain⟨x1,x2⟩:=x;simp only at hx |-
   match x1,hx with
   |[a],_=>exact aeA h hl|[a,y],hy=>exact aeB h hl (I5.1 hy)
  rw[kc,CY,hb,MR h hl l _ (λy hy=>hs y (fw _ hy))]
def LT: ∀x∈Bi,Ue x.1=true:=cf
def opC (c:UInt8)(d:Option UInt8)(n:Nat):Except Int (Tok×Nat):=
 match kg [c,d.getD 0]with
 |some w=> .ok (⟨2,0,w⟩,n+2)|none=>if d.getD 0≠0/\dl.contains [c,d.getD 0]then .ok (⟨2,0,[c,d.getD 0]⟩,n+2)
  else match kg [c]with
   |some w=> .ok (⟨2,0,w⟩,n+1)|none=>if dl.contains [c]then .ok (⟨2,0,[c]⟩,n+1)else .error 7
def aba {a b:UInt8}{w:List UInt8}(h:kg [a,b]=some w):b=61:=by
 unfold kg at h;simp only[q7,ka]at h;split at h
 ·rename_i h1;exact h1.2
 ·split at h
  ·rename_i h1;exact h1.2
  ·split at h
   ·rename_i h1;exact h1.2
   ·split at h
    ·rename_i h1;exact h1.2
    ·simp at h
def aaz {c:UInt8}(h:s[n]? =some c)(hc:c≠32):iu false s n=opC c s[n+1]? n:=by
 obtain⟨ha,hb⟩:=wL (fx:=false) h hc;unfold iu opC;simp only[ha,hb,fE,gu];by_cases h2:n+1<s.length
 ·rw[bC h2]<;>(cases kg [c,(s[n+1]?).getD 0]<;>rfl)
 ·rw[bB h2,eB bu];cases hsp:kg [c,(none:Option UInt8).getD 0]with|some w=>exact absurd (aba hsp) cf|none=>simp only[Jc,ne_eq,xC,false_and,du]<;>(cases kg [c]<;>rfl)
def aeR (c:UInt8)(d:Option UInt8)(n:Nat):CY c d n Bi (.error 7)=opC c d n:=by
 have hd:d=none\/d=some 61\/d=some 42\/d=some 47\/d=some 62\/ ∃x,d=some x/\x≠61/\x≠42/\x≠47/\x≠62:=by
  cases d with
  |none=>exact Or.inl rfl|some x=>
   by_cases h1:x=61
   ·exact Or.inr (Or.inl (by rw[h1]))
   ·by_cases h2:x=42
    ·exact Or.inr (Or.inr (Or.inl (by rw[h2])))
    ·by_cases h3:x=47
     ·exact Or.inr (Or.inr (Or.inr (Or.inl (by rw[h3]))))
     ·by_cases h4:x=62
      ·exact Or.inr (Or.inr (Or.inr (Or.inr (Or.inl (by rw[h4])))))
      ·exact Or.inr (Or.inr (Or.inr (Or.inr (Or.inr ⟨x,rfl,h1,h2,h3,h4⟩))))
 have hL: ∀(x:UInt8),x∈([60,62,61,47,42,43,45,40,41,44,58,37]:List UInt8)\/x ∉([60,62,61,47,42,43,45,40,41,44,58,37]:List UInt8):=λx=>Classical.em _;rcases hL c with hm|hm
 ·simp only[ed,sJ,pk]at hm;rcases hm with rfl|rfl|rfl|rfl|rfl|rfl|rfl|rfl|rfl|rfl|rfl|rfl<;>rcases hd with rfl|rfl|rfl|rfl|rfl|⟨x,rfl,h1,h2,h3,h4⟩<;>
   simp[CY,Bi,sV,tE,dl,beg,toE,opC,kg, *]
 ·simp only[ed,sJ,pk,rb]at hm;obtain⟨n1,n2,n3,n4,n5,n6,n7,n8,n9,n10,n11,n12⟩:=hm;simp[CY,Bi,sV,tE,dl,beg,toE,opC,kg,n1,n2,n3,n4,n5,n6,n7,n8,n9,n10,n11,n12]
def aeD {c:UInt8}(h:s[n]? =some c)(hc:c≠32)(hl:cM c=false):yI s n=iu false s n:=by have e:yI s n=kc s n Bi (.error 7):=(Y6 sV (tE dl) _).symm;rw[e,MR h hl _ _ LT,aeR,aaz h hc]
def afc {c:UInt8}(h:s[n]? =some c)(hc:c≠32):KW s n c=nv (fp false s n c):=by
 obtain⟨ha,hb⟩:=wL (fx:=false) h hc;unfold KW fp;by_cases hl:cM c=true
 ·rw[bC hl,bC hl,abo,gz uD,g9 uD];split<;>rfl
 ·rw[bB hl,bB hl];have hl':cM c=false:=by simpa using hl
  have e2:atC false s (n+1)=(s[n+1]?).getD 0:=rfl;rw[e2];by_cases hd:(bL c||(decide (c=46)&&bL ((s[n+1]?).getD 0)))=true
  ·rw[bC hd,bC hd,MJ];refine WA h ?_;rw[gO,cE,dA]at hd;exact hd
  ·rw[bB hd,bB hd];by_cases h46:c=46
   ·rw[bC h46,bC h46,afZ (by rw[ha,h46])];split<;>rfl
   ·rw[bB h46,bB h46];by_cases hq:c=39\/c=34
    ·rw[bC hq,bC hq,lf]
    ·rw[bB hq,bB hq,MJ,aeD h hc hl']
def yN {α:Type}:Except Int α->Prop
 | .ok _=>True| .error e=>e=4\/e=7\/e=8\/e=28
def MN {q:Except Int (Tok×Nat)}(h:yN q):yN (noK q):=by cases q<;>exact h
def WL:yN (gd s n):=by
 unfold gd;split
 ·exact Or.inr (Or.inl rfl)
 ·split
  ·exact Or.inr (Or.inr (Or.inl rfl))
  ·trivial
def adb {whole part digits:List UInt8}{letter:UInt8}{ok:Bool}{e:Nat}:yN (fG whole part digits letter ok e):=by
 unfold fG;split
 ·exact Or.inr (Or.inl rfl)
 ·trivial
def WB {fx:Bool}:yN (fa fx s n):=by
 unfold fa;simp only;split
 ·unfold eK;split
  ·exact trivial
  ·rename_i e he;split at he
   ·injection he with he;subst he;exact Or.inr (Or.inr (Or.inr rfl))
   ·cases he
 ·exact adb
def ahv {fx:Bool}:yN (iu fx s n):=by
 unfold iu;simp only;split
 ·trivial
 ·split
  ·trivial
  ·split
   ·trivial
   ·split
    ·trivial
    ·exact Or.inr (Or.inl rfl)
def Kq {fx:Bool}{out:List Tok}:yN (jn fx s out n):=by
 unfold jn;split
 ·unfold we;split
  ·exact Or.inr (Or.inl rfl)
  ·trivial
 ·unfold fp;split
  ·split
   ·exact Or.inl rfl
   ·trivial
  ·split
   ·exact MN WB
   ·split
    ·split
     ·trivial
     ·exact Or.inr (Or.inl rfl)
    ·split
     ·have:=WL (s:=s) (n:=n);unfold iE;cases hq:gd s n with|ok q=>trivial|error e=>rw[hq]at this;exact this
     ·exact MN ahv
end
section
variable {μ:Mu}{s:List UInt8}
def tG {out:List Tok}{n:Nat}:jn false s out n=fp false s n ((s[n]?).getD 0):=by unfold jn Fh;rfl
noncomputable def Vl (μ:Mu):Option (Nat×Int)×List Tok×List Nat->St
 |(none,out,_)=>EH (bS out) μ|(some (n,e),_,_)=>EG [] (n:Int) e μ
def ahI (hs:s.length<=200000){out:List Tok}{st:St}: ∀(k n:Nat),cB (s.drop n)=k->n<=s.length->CI (ev E) s (bS out) ((n+k:Nat):Int) μ=some st->CI (ev E) s (bS out) (n:Int) μ=some st:=by
 have e32: ∀c:UInt8,decide ((c.toNat:Int)=32)=decide (c=32):=λc=>eZ (k:=32) bu;intro k
 induction k with
 |zero=>intro n hb hn h;exact h|succ k ih=>
  intro n hb hn h;have hlt:n<s.length:=by
   rcases fu n s.length with h1|h1
   ·exact h1
   ·rw[dS h1]at hb;simp[cB]at hb
  rw[dY hlt,cB]at hb;by_cases hc:s[n]=32
  ·rw[bC hc]at hb;refine cC ?_;have:decide (s[n]=32)=true:=by simp[hc]
   rw[Iy,ie hlt,bH,eT hlt,bx,e32,this,bH,dy bu];refine ih (n+1) bu hlt ?_;have:n+1+k=n+(k+1):=bu;rw[this];exact h
  ·rw[bB hc]at hb;cases hb
def ag2 (hs:s.length<=200000): ∀(k n:Nat) (out:List Tok) (kept:List Nat),s.length<n+k->n<=s.length->out.length<=n->
 CI (ev E) s (bS out) (n:Int) μ=some (Vl μ (eN false s k n out kept)):=by
 have e32: ∀c:UInt8,decide ((c.toNat:Int)=32)=decide (c=32):=λc=>eZ (k:=32) bu;intro k
 induction k with
 |zero=>intro n out kept hk hn ho;omega|succ k ih=>
  intro n out kept hk hn ho;have hb:=rU (s.drop n);rw[fY]at hb;refine ahI hs _ n rfl hn ?_;unfold eN;by_cases hm:s.length<=n+cB (s.drop n)
  ·rw[bC hm];refine cC ?_;rw[Iy,iG hm,bI];rfl
  ·rw[bB hm];have hlt:n+cB (s.drop n)<s.length:=bu;obtain⟨c,hc1,hc2⟩:=Gg hlt;obtain⟨m,hmd⟩: ∃m,m=n+cB (s.drop n):=⟨_,rfl⟩;rw[<-hmd]at hlt hc1 |-;have hg:s[m]=c:=by rw[dK hlt]at hc1;simpa using hc1
   have hf:=zF (fx:=false) (out:=out) hc1 hc2;have he:=Kq (s:=s) (n:=m) (fx:=false) (out:=out);have hT:jn false s out m=fp false s m c:=by rw[tG,hc1];rfl
   have hN:=afc hc1 hc2;rw[<-hT]at hN;refine cC ?_;have h32:decide (c=32)=false:=by simp[hc2]
   rw[Iy,ie hlt,bH,eT hlt,bx,e32,hg,h32,bI];cases ht:jn false s out m with
   |error e=>
    rw[ht]at he hN;have hG:UF (ev E) s (bS out) (m:Int) μ=some (Ey [] (m:Int) e μ):=by
     refine ck ?_;rw[TY,adZ hs hlt,hg,hN,bV,vQ];simp only[nv,stB];have:decide (e=0)=false:=by simp only[gL];rcases he with h|h|h|h<;>rw[h]<;>decide
     rw[this];rfl
    rw[hG,bx,V1];rfl
   |ok q=>
    rw[ht]at hf hN;obtain⟨f1,f2,f3⟩:=hf;have ha:[CV.agg [bF q.1.kind,bF q.1.type,CV.str q.1.text]]=bS [q.1]:=rfl;have happ:bS out++bS [q.1]=bS (out++[q.1]):=by simp[bS]
    have hG:UF (ev E) s (bS out) (m:Int) μ=some (Ez s (bS (out++[q.1])) (q.2.1:Int) μ):=by
     refine ck ?_;have hG12:Xz (ev E) s (bS out) q.1.kind q.1.type q.1.text (q.2.1:Int) 0 μ=some (AN s (bS (out++[q.1])) (q.2.1:Int) μ):=by refine ck ?_;rw[acN,ha,F9 b7,cK,happ]
     rw[TY,adZ hs hlt,hg,hN,bV,vQ];simp only[nv,stB];rw[iB,cS,bI,hG12,bx,QQ]
    rw[hG,bx,V2];exact ih q.2.1 _ _ bu f2 b7
def Cq {fx:Bool}: ∀(k n:Nat) (out:List Tok) (kept:List Nat) (m:Nat) (e:Int),(eN fx s k n out kept).1=some (m,e)->e≠0
 |0,n,out,kept,m,e,h=>by simp[eN]at h|k+1,n,out,kept,m,e,h=>by
  unfold eN at h;split at h
  ·cases h
  ·have he:=Kq (s:=s) (n:=n+cB (s.drop n)) (fx:=fx) (out:=out);cases ht:jn fx s out (n+cB (s.drop n))with
   |error x=>rw[ht]at h he;simp only[bP,dB]at h;obtain⟨_,rfl⟩:=h;rcases he with h|h|h|h<;>rw[h]<;>decide
   |ok q=>rw[ht]at h;exact Cq k _ _ _ m e h
def ah8 (hs:s.length<=200000):(ev E).call 25 [LV.str s] μ=some (.ret (.ltup [if ez s=0 then LV.cv (CV.sl (bS (gS false s)))else Oz,bv ((dn false s).n:Int),bv (dn false s).e]) μ):=by
 refine bW ?_;rw[akA,adY hs];simp only[bQ];by_cases ht:ez s=0
 ·have h1:decide (ez s=0)=true:=by simp[ht]
  rw[h1,cS,bI,bC ht];have hl:=ag2 (μ:=μ) hs (s.length+1) 0 [] [] bu bu bE;have e0:((0:Nat):Int)=0:=rfl;have et:bS []=[]:=rfl;rw[e0,et]at hl;have hne:=Cq (s:=s) (fx:=false) (s.length+1) 0 [] [];obtain⟨r,hr⟩: ∃r,eN false s (s.length+1) 0 [] []=r:=⟨_,rfl⟩;rw[hr]at hl hne;have hsc:dn false s=if(eP r.1).2=0 then(if 300<r.2.1.length then⟨r.2.1,r.2.2,0,8⟩else⟨r.2.1,r.2.2,r.2.1.length,0⟩)else⟨r.2.1,r.2.2,(eP r.1).1,(eP r.1).2⟩:=by unfold dn;rw[bC ht,hr]
  have hG:adF (ev E) s μ=some (ul (bS (gS false s)) ((dn false s).n:Int) (dn false s).e μ):=by
   refine ck ?_;rw[afj,hl,bx];unfold gS;rw[hsc];obtain⟨x,o,q⟩:=r;have hlen:(bS o).length=o.length:=by simp[bS]
   cases x with
   |none=>
    have hz:(eP (none:Option (Nat×Int))).2=0:=rfl;rw[bC hz];simp only[Vl];rw[Wl,hlen];by_cases h3:300<o.length
    ·have:decide ((300:Int)<(o.length:Int))=true:=b7;rw[this,bH,bC h3];rfl
    ·have:decide ((300:Int)<(o.length:Int))=false:=b7;rw[this,bI,bB h3];rfl
   |some w=>obtain⟨m,e⟩:=w;have he:=hne m e rfl;have hz: ¬(eP (some (m,e))).2=0:=he;rw[bB hz];simp only[Vl];rw[Wk];have hz2:(if(eP (some (m,e))).2=0 then o else [])=[]:=bB hz;simp only[hz2];rfl
  rw[hG,bx,VZ]
 ·have h1:decide (ez s=0)=false:=by simp[ht]
  have hsc:dn false s=⟨[],[],0,ez s⟩:=by unfold dn;rw[bB ht]
  rw[h1,c8,bH,bB ht,hsc];rfl
end
section
variable {μ:Mu}{s:List UInt8}
def acZ: ∀i:Fin 256,(decide ((97:Int)<=IntKind.wrap .i64 (IntKind.wrap .u8 ((BitVec.ofInt (IntKind.bits .u8) (i.val:Int) ||| BitVec.ofInt (IntKind.bits .u8) (32:Int)).toNat:Int)))&&decide (IntKind.wrap .i64 (IntKind.wrap .u8 ((BitVec.ofInt (IntKind.bits .u8) (i.val:Int) ||| BitVec.ofInt (IntKind.bits .u8) (32:Int)).toNat:Int))<=(122:Int)))=cM (UInt8.ofNat i.val):=cf
def Zk {c:UInt8}:(ev E).call 124 [LV.int .u8 (c.toNat:Int)] μ=some (.ret (LV.bool (cM c)) μ):=by refine bW ?_;have h:=acZ ⟨c.toNat,Jf c⟩;have e:UInt8.ofNat c.toNat=c:=bE;rw[e]at h;rw[aiF,yZ];simp only[bQ];rw[<-h]
def agy {c:UInt8}:(ev E).call 125 [LV.int .u8 (c.toNat:Int)] μ=some (.ret (LV.bool (bL c)) μ):=by refine bW ?_;have hc:=Jf c;rw[aiG,el bu bu,yZ];simp only[bQ];have h1:decide ((48:Int)<=(c.toNat:Int))=decide (48<=c.toNat):=b7;have h2:decide ((c.toNat:Int)<=(57:Int))=decide (c.toNat<=57):=b7;rw[h1,h2];rfl
def ahb (hs:s.length<=200000): ∀(k n:Nat),n+k=s.length->FT (ev E) s (s.length:Int) (n:Int) μ=some (if(s.drop n).all cX then ES μ else ER false μ):=by
 intro k
 induction k with|zero=>intro n hn;refine cC ?_;rw[Ua,iG bu,bI];have:s.drop n=[]:=dS bu;rw[this];rfl|succ k ih=>intro n hn;refine cC ?_;have hlt:n<s.length:=bu;have hd:s.drop n=s[n]::s.drop (n+1):=dY hlt;rw[Ua,ie hlt,bH,eT hlt,bx,Zk,dy bu,ih (n+1) bu,hd,Dp];simp only[bQ,agy];rw[ih (n+1) bu];have h1:decide ((s[n].toNat:Int)=95)=decide (s[n].toNat=95):=b7;rw[h1];unfold cX;cases cM s[n]<;>cases bL s[n]<;>cases decide (s[n].toNat=95)<;>simp
def rZ (p:UInt8->Bool)(s:List UInt8):Bool:=match s with|[]=>false|c::_=>p c
def C2 (s:List UInt8):Bool:=decide (s.length<=31)&&rZ cM s&&s.all cX
def aih (hs:s.length<=200000):(ev E).call 81 [LV.str s] μ=some (.ret (LV.bool (C2 s)) μ):=by
 refine bW ?_;rw[akT];cases s with
 |nil=>rfl|cons c r=>
  have h0:decide (c::r=[])=false:=bE;have h1:dm (c::r) 0=some c:=rfl;rw[h0,bI,h1,bx,Zk];simp only[bQ];have hG:adM (ev E) (c::r) μ=some (yw ((c::r).all cX) μ):=by
   refine ck ?_;have:=ahb (μ:=μ) hs (c::r).length 0 bu;have e0:((0:Nat):Int)=0:=rfl;rw[e0,d7]at this;rw[aft,this,bx];cases (c::r).all cX with|true=>rw[bC rfl,Ww]|false=>rw[bB bE,Wv]
  rw[hG,bx,We];unfold C2;rw[show rZ cM (c::r)=cM c from rfl];have h2:decide ((31:Int)<((c::r).length:Int))= !decide ((c::r).length<=31):=by
   by_cases h:(c::r).length<=31
   ·rw[co h];exact cl bu
   ·rw[cl h];exact co bu
  rw[h2];generalize(c::r).all cX=y;cases decide ((c::r).length<=31)<;>cases cM c<;>rfl
def sU (c:UInt8):Bool:=decide (97<=c.toNat)&&decide (c.toNat<=122)
def ag6 (hs:s.length<=200000): ∀(k n:Nat),n+k=s.length->KJ (ev E) s (n:Int) μ=some (if(s.drop n).any sU then EI false μ else EJ μ):=by
 intro k
 induction k with|zero=>intro n hn;refine cC ?_;rw[T5,iG bu,bI];have:s.drop n=[]:=dS bu;rw[this];rfl|succ k ih=>intro n hn;refine cC ?_;have hlt:n<s.length:=bu;have hd:s.drop n=s[n]::s.drop (n+1):=dY hlt;rw[T5,ie hlt,bH,eT hlt,bx,bx,dy bu,ih (n+1) bu,hd,qp];have h1:decide ((97:Int)<=(s[n].toNat:Int))=decide (97<=s[n].toNat):=b7;have h2:decide ((s[n].toNat:Int)<=122)=decide (s[n].toNat<=122):=b7;rw[h1,h2];unfold sU;cases decide (97<=s[n].toNat)<;>cases decide (s[n].toNat<=122)<;>simp
def mO (s:List UInt8):Bool:=C2 s&& !s.any sU
def aia (hs:s.length<=200000):(ev E).call 44 [LV.str s] μ=some (.ret (LV.bool (mO s)) μ):=by
 refine bW ?_;rw[akE,aih hs];simp only[bQ];have hG:adG (ev E) s μ=some (yq (!s.any sU) μ):=by
  refine ck ?_;have:=ag6 (μ:=μ) hs s.length 0 bu;have e0:((0:Nat):Int)=0:=rfl;rw[e0,d7]at this;rw[afl,this,bx];cases s.any sU with|true=>rw[bC rfl,Wm];rfl|false=>rw[bB bE,Wn];rfl
 rw[hG,bx,V5];unfold mO;cases C2 s<;>rfl
def OC (b:UInt8):Bool:= !((decide (97<=b.toNat)&&decide (b.toNat<=122))||(decide (65<=b.toNat)&&decide (b.toNat<=90))||(decide (48<=b.toNat)&&decide (b.toNat<=57))||decide (b.toNat=95))
def aav:OC=λb=> !cX b:=by funext b;unfold OC cX cM bL;rfl
def H2 {p:UInt8->Bool}: ∀(l:List UInt8),(!l.any λb=> !p b)=l.all p
 |[]=>rfl|c::r=>by rw[qp,Dp,Bool.not_or,H2 r,Bool.not_not]
def RT: ∀i:Fin 256,(upB (UInt8.ofNat i.val)=UInt8.ofNat i.val)↔sU (UInt8.ofNat i.val)=false:=cf
def afX (c:UInt8):upB c=c↔sU c=false:=by have:=RT ⟨c.toNat,Jf c⟩;simpa using this
def od: ∀(l:List UInt8),l.map upB=l↔l.any sU=false
 |[]=>by simp|c::r=>by rw[dr,qp,q7,afX,od r,ot]
def aik (hs:s.length<=200000):(ev E).call 91 [LV.str s] μ=some (.ret (LV.bool (mO s)) μ):=by
 refine bW ?_;rw[akY];cases s with
 |nil=>rfl|cons c r=>
  have h0:decide (c::r=[])=false:=bE;have h1:dm (c::r) 0=some c:=rfl;rw[h0,c8,bH,h1,bx,GN];simp only[bQ];rw[M8 (s:=c::r) bu];simp only[bQ];rw[M7 (g:=137) (p:=OC) rfl];simp only[bQ];unfold mO C2;rw[show rZ cM (c::r)=cM c from rfl,aav,H2];have h2:decide (((c::r).length:Int)<=31)=decide ((c::r).length<=31):=by
   by_cases h:(c::r).length<=31
   ·rw[co h];simp only[dA];omega
   ·rw[cl h];simp only[gL];omega
  rw[h2];cases hp:(c::r).all cX with
  |false=>cases decide ((c::r).length<=31)<;>cases cM c<;>cases decide (Lib.toUpperD (c::r)=c::r)<;>simp|true=>
   have hu:Lib.toUpperD (c::r)=(c::r).map upB:=q5 _ λb hb=>DJ (xE.1 hp b hb);have h3:decide (Lib.toUpperD (c::r)=c::r)= !(c::r).any sU:=by
    rw[hu];cases hl:(c::r).any sU with|false=>rw[co ((od _).2 hl)];rfl|true=>rw[cl (λe=>by rw[(od _).1 e]at hl;cases hl)];rfl
   rw[h3];cases decide ((c::r).length<=31)<;>cases cM c<;>cases (c::r).any sU<;>simp
def ag7 {l:List (List UInt8)}{x:List UInt8}(hl:l.length<=1000000): ∀(k j:Nat) (b:Bool),j+k=l.length->
 KM (ev E) x b (dh l) (l.length:Int) (j:Int) μ=some (ET (b||(l.drop j).contains x) μ):=by
 intro k
 induction k with
 |zero=>intro j b hj;refine cC ?_;rw[Ub,iG bu,bI];have:l.drop j=[]:=dS bu;rw[this];simp|succ k ih=>
  intro j b hj;refine cC ?_;have hlt:j<l.length:=bu;have hd:l.drop j=l[j]::l.drop (j+1):=dY hlt;have hg:(dh l)[j]? =some (CV.str l[j]):=by simp[dh,hlt]
  rw[Ub,ie hlt,bH,eJ,hg,bx,mV,bx,dy bu,ih (j+1) _ bu,ih (j+1) _ bu,hd,List.contains_cons];have e:(x == l[j])=decide (l[j]=x):=by
   by_cases h:l[j]=x
   ·simp[h]
   ·have: ¬x=l[j]:=λe=>h e.symm;simp[h,this]
  rw[e];cases b<;>simp
def ad2 {l:List (List UInt8)}{x:List UInt8}(hl:l.length<=1000000):(ev E).call 84 [LV.cv (CV.sl (dh l)),LV.str x] μ=some (.ret (LV.bool (l.contains x)) μ):=by
 refine bW ?_;have e:(dh l).length=l.length:=by simp[dh]
 have:=ag7 (μ:=μ) (l:=l) (x:=x) hl l.length 0 false bu;have e0:((0:Nat):Int)=0:=rfl;rw[e0,d7,qq]at this;rw[akV,e,this,bx,Wx]
def OB (b:UInt8):Bool:=decide (b.toNat<48)||decide (57<b.toNat)
def aau:OB=λb=> !bL b:=by
 funext b;unfold OB bL;rw[Bool.not_and];congr 1
 ·by_cases h:48<=b.toNat
  ·rw[co h,cl bu];rfl
  ·rw[cl h,co bu];rfl
 ·by_cases h:b.toNat<=57
  ·rw[co h,cl bu];rfl
  ·rw[cl h,co bu];rfl
def iV (t:List UInt8):Bool:=decide (t.length<=10)&&t.all bL&&rZ (λc=> !decide (c=48)||decide (t=[48])) t
def pQ (k:Int)(t:List UInt8):Int:=
 if k=0 then(if iV t then(if 2147483647<valD 0 t then 28 else 0)else 3)
 else if k=1\/k=2\/k=5\/k=6 then(if l8 t=some ⟨1,k,t⟩then 0 else 3)else 15
def zx {k:Int}(hs:s.length<=200000){b:Bool}(hb:b=decide (k=1\/k=2\/k=5\/k=6))(hk:k≠0):
 (opt (ud (ev E) k s b μ) (kB (ev E) 90 H90 [.block 0,.seq (cN 90 7)]))=some (.ret (bv (pQ k s)) μ):=by
 subst hb;by_cases h:k=1\/k=2\/k=5\/k=6
 ·have:ud (ev E) k s (decide (k=1\/k=2\/k=5\/k=6)) μ=some (mK (pQ k s) μ):=by
   refine ck ?_;rw[NA,co h,bH,agA hs];unfold pQ;rw[bB hk,bC h];simp only[bQ];cases hq:l8 s with
   |none=>rfl|some t=>
    simp only[ahx,bQ,iw];obtain⟨a,b,c⟩:=t;simp only;by_cases h1:a=1
    ·by_cases h2:b=k
     ·by_cases h3:c=s
      ·subst h1;subst h2;subst h3;simp
      ·have: ¬(some (Tok.mk a b c)=some (Tok.mk 1 k s)):=λe=>h3 (by injection e with e;injection e);rw[bB this,co h1,co h2,cl h3];rfl
     ·have: ¬(some (Tok.mk a b c)=some (Tok.mk 1 k s)):=λe=>h2 (by injection e with e;injection e);rw[bB this,co h1,cl h2];rfl
    ·have: ¬(some (Tok.mk a b c)=some (Tok.mk 1 k s)):=λe=>h1 (by injection e with e;injection e);rw[bB this,cl h1];rfl
  rw[this,bx,QY]
 ·have:ud (ev E) k s (decide (k=1\/k=2\/k=5\/k=6)) μ=some (AQ μ):=by refine ck ?_;rw[NA,cl h,bI]
  rw[this,bx,QZ];unfold pQ;rw[bB hk,bB h]
def akr {t:List UInt8}(h1:t.length<=10)(h2:t.all bL=true)(h3:t≠[]):eD t=(valD 0 t:Nat):=by unfold eD;rw[ja (λb hb=>xE.1 h2 b hb) h3 h1]
def afJ {t:List UInt8}(h1:t.length<=10)(h2:t.all bL=true)(h3:t≠[]):
 (opt (KI (ev E) t μ) (kB (ev E) 90 H90 [.block 0,.seq (cN 90 7)]))=some (.ret (bv (if 2147483647<valD 0 t then 28 else 0)) μ):=by
 have:KI (ev E) t μ=some (yx (if 2147483647<valD 0 t then 28 else 0) μ):=by
  refine ck ?_;rw[afw,GM bu,yF,akr h1 h2 h3];simp only[bQ,o5];by_cases h:2147483647<valD 0 t
  ·rw[bC h,show decide ((2147483647:Int)<((valD 0 t:Nat):Int))=true by simp;omega];rfl
  ·rw[bB h,show decide ((2147483647:Int)<((valD 0 t:Nat):Int))=false by simp;omega];rfl
 rw[this,bx,Wh]
def aij {k:Int}(hs:s.length<=200000):(ev E).call 90 [bv k,LV.str s] μ=some (.ret (bv (pQ k s)) μ):=by
 refine bW ?_;rw[akX];by_cases h0:k=0
 ·subst h0;rw[co rfl,bH];unfold pQ iV;rw[bC rfl];cases s with
  |nil=>rfl|cons c r=>
   have e0:decide (c::r=[])=false:=bE;have e1:dm (c::r) 0=some c:=rfl;have e2:decide ((10:Int)<((c::r).length:Int))= !decide ((c::r).length<=10):=by
    by_cases h:(c::r).length<=10
    ·rw[co h];exact cl bu
    ·rw[cl h];exact co bu
   have e3:decide ((c.toNat:Int)=48)=decide (c=48):=eZ (k:=48) bu;rw[e0,bI,e1,e2,M7 (g:=132) (p:=OB) rfl,aau];simp only[bQ];rw[e3];have e4:((c::r).any λb=> !bL b)= !(c::r).all bL:=by rw[<-H2 (p:=bL),Bool.not_not]
   rw[e4];show _=some (Out.ret (bv (if(decide ((c::r).length<=10)&&(c::r).all bL&&(!decide (c=48)||decide (c::r=[48])))=true then(if 2147483647<valD 0 (c::r)then 28 else 0)else 3)) μ);by_cases h1:(c::r).length<=10
   ·cases h2:(c::r).all bL with|false=>rw[co h1];rfl|true=>rw[afJ h1 h2 bE,co h1];cases decide (c=48)<;>cases decide (c::r=[48])<;>simp
   ·rw[cl h1];rfl
 ·rw[cl h0,bI];by_cases h1:k=1
  ·rw[co h1,bH];exact zx hs (by rw[co (Or.inl h1)]) h0
  ·rw[cl h1,bI];by_cases h2:k=2
   ·rw[co h2,bH];exact zx hs (by rw[co (Or.inr (Or.inl h2))]) h0
   ·rw[cl h2,bI];by_cases h5:k=5
    ·rw[co h5,bH];exact zx hs (by rw[co (Or.inr (Or.inr (Or.inl h5)))]) h0
    ·rw[cl h5,bI];exact zx hs (by simp[h1,h2,h5]) h0
def oa (t:Tok):Int:=
 if t.kind=1 then pQ t.type t.text
 else if t.kind=0\/t.kind=2 then
  if t.type=0 then(if t.kind=0 then(if mO t.text then 0 else 4)else(if ek.contains t.text||dl.contains t.text then 0 else 7))else 3
 else 15
def adg {a b:Int}(ha:a=0\/a=2):Lp (ev E) a b s μ=some (oQ (if a=0 then 0 else(if ek.contains s||dl.contains s then 0 else 7)) μ):=by
 refine ck ?_;rw[acQ];rcases ha with rfl|rfl
 ·rfl
 ·rw[co rfl,bH,ad3,bV,iT,bx,GQ cf];simp only[bQ];rw[VB,bV,iT,bx,GQ cf];simp only[bQ];rw[bB cf];cases ek.contains s<;>cases dl.contains s<;>rfl
def afN {a b:Int}(hs:s.length<=200000)(ha:a=0\/a=2):adI (ev E) a b s μ=some (yt (if a=0 then(if mO s then 0 else 4)else(if ek.contains s||dl.contains s then 0 else 7)) μ):=by
 refine ck ?_;rw[afn,aik hs];simp only[bQ];rw[adg ha,bx,QU];rcases ha with rfl|rfl
 ·rw[co rfl,bH];cases mO s<;>rfl
 ·rfl
def aic {t:Tok}(hs:t.text.length<=200000):(ev E).call 55 [LV.cv t.cv] μ=some (.ret (bv (oa t)) μ):=by
 refine bW ?_;obtain⟨a,b,s⟩:=t;show bJ E (ev E) 55 [LV.cv (CV.agg [bF a,bF b,CV.str s])] μ=_;rw[akH,aij hs];simp only[bQ];unfold oa;simp only;by_cases h1:a=1
 ·rw[bC h1,co h1,bH]
 ·rw[bB h1,cl h1,bI];have key: ∀x:Bool,x=decide (a=0\/a=2)->(opt (FN (ev E) x a b s μ) (kB (ev E) 55 H55 [.block 0,.seq (cN 55 7)]))=
   some (.ret (bv (if a=0\/a=2 then(if b=0 then(if a=0 then(if mO s then 0 else 4)else(if ek.contains s||dl.contains s then 0 else 7))else 3)else 15)) μ):=by
   intro x hx;subst hx;by_cases h:a=0\/a=2
   ·have:FN (ev E) (decide (a=0\/a=2)) a b s μ=some (yr (if b=0 then(if a=0 then(if mO s then 0 else 4)else(if ek.contains s||dl.contains s then 0 else 7))else 3) μ):=by
     refine ck ?_;rw[TZ,co h,bH,afN hs h,bx,V9];by_cases hb:b=0
     ·rw[co hb,bC hb];rfl
     ·rw[cl hb,bB hb];rfl
    rw[this,bx,V7,bC h]
   ·have:FN (ev E) (decide (a=0\/a=2)) a b s μ=some (EB μ):=by refine ck ?_;rw[TZ,cl h,bI]
    rw[this,bx,V8,bB h]
  by_cases h0:a=0
  ·rw[co h0,bH];exact key _ (by rw[co (Or.inl h0)])
  ·rw[cl h0,bI];exact key _ (by simp[h0])
end
section
variable {μ:Mu}{s:List UInt8}
def Hk (k:Int)(t:List UInt8):Int:=if(dn false t).e=0/\gS false t=[⟨1,k,t⟩]then 0 else 3
def zr (k:Int)(t:List UInt8):Int:=if 122<t.length\/ez t≠0 then 3 else Hk k t
def ajE {l:List Tok}:cj (if ez s=0 then LV.cv (CV.sl (bS (gS false s)))else Oz)=some (bS (gS false s)):=by
 by_cases ht:ez s=0
 ·rw[bC ht];rfl
 ·rw[bB ht];have hsc:dn false s=⟨[],[],0,ez s⟩:=by unfold dn;rw[bB ht]
  have:gS false s=[]:=by unfold gS;rw[hsc];exact bB ht
  rw[this];rfl
def afT {t:Tok}{k:Int}{s:List UInt8}:(decide (t.kind=1)&&(decide (t.type=k)&&(decide (t.text=s)&&true)))=decide (t=⟨1,k,s⟩):=by obtain⟨a,b,c⟩:=t;exact ahN ⟨a,b,c⟩ ⟨1,k,s⟩
def afM {k:Int}(hs:s.length<=200000):Xh (ev E) k s μ=some (oN (Hk k s) μ):=by
 refine ck ?_;rw[acn,ah8 hs];simp only[bQ];rw[ajE (l:=[]),bx];unfold Hk;by_cases he:(dn false s).e=0
 ·rw[co he,cS,bI];have hl:(bS (gS false s)).length=(gS false s).length:=by simp[bS]
  rw[hl]
  match h:gS false s with
  |[]=>rw[bB bE];rfl|[t]=>
   have e1:cT (bS [t]) (0:Int)=some t.cv:=rfl;rw[show decide ((([t]:List Tok).length:Int)=1)=true from rfl,cS,bI,e1,bx,iw,afT];by_cases ht:t=⟨1,k,s⟩
   ·rw[co ht,bC ⟨he,by rw[ht]⟩];rfl
   ·rw[cl ht,bB (λe=>ht (by simpa using e.2))];rfl
  |a::b::r=>have:decide (((a::b::r).length:Int)=1)=false:=b7;rw[this,bB bE];rfl
 ·rw[cl he,bB (λe=>he e.1)];rfl
def afL {k:Int}(hs:s.length<=200000):wv (ev E) k s μ=some (rH (zr k s) μ):=by
 refine ck ?_;rw[acm,adY hs];simp only[bQ];rw[afM hs,bx,P5];unfold zr;by_cases h1:122<s.length
 ·rw[bC (Or.inl h1),show decide ((122:Int)<(s.length:Int))=true from co bu];rfl
 ·rw[show decide ((122:Int)<(s.length:Int))=false from cl bu,bI];by_cases h2:ez s=0
  ·rw[co h2,bB (by simp[h1,h2])];rfl
  ·rw[cl h2,bC (Or.inr h2)];rfl
def IH (t:List UInt8):Bool:=decide (t.length=10)&&(decide (digR t 0=10)&&(rZ (λc=> !decide (c=48)) t&& !(Op.bytesLess t fK||decide (t=fK))))
def Hl (k:Int)(t:List UInt8):Int:=
 if !(decide (0<=k)&&decide (k<=6))||(decide (k=3)||decide (k=4))then 15
 else if k=0/\IH t=true then 28 else zr k t
def afK {k:Int}(hs:s.length<=200000):Xg (ev E) k s μ=some (rG (if k=0/\IH s=true then 28 else zr k s) μ):=by
 refine ck ?_;rw[acl];have h47:=GO (μ:=μ) hs (n:=0) (ox _);have e0:((0:Nat):Int)=0:=rfl;rw[e0]at h47;rw[h47];simp only[bQ];rw[afL hs,bx,P4];by_cases h0:k=0
 ·rw[co h0,bH];unfold IH;by_cases h1:s.length=10
  ·rw[show decide ((s.length:Int)=10)=true from co bu,bH,co h1];by_cases h2:digR s 0=10
   ·rw[show decide ((digR s 0:Int)=10)=true from co bu,bH,co h2]
    match s,h1 with
    |c::r,h1=>have e3:decide ((c.toNat:Int)=48)=decide (c=48):=eZ (k:=48) bu;rw[show dm (c::r) 0=some c from rfl,bx,e3];show _=some (rG (if k=0/\(true&&(true&&(!decide (c=48)&& !(Op.bytesLess (c::r) fK||decide (c::r=fK)))))=true then 28 else zr k (c::r)) μ);simp only[h0,jW,ic];have e4:([50,49,52,55,52,56,51,54,52,55]:List UInt8)=fK:=rfl;rw[e4];cases decide (c=48)<;>cases (Op.bytesLess (c::r) fK||decide (c::r=fK))<;>rfl
   ·rw[show decide ((digR s 0:Int)=10)=false from cl bu,bI,cl h2];simp
  ·rw[show decide ((s.length:Int)=10)=false from cl bu,bI,cl h1];simp
 ·rw[cl h0,bI,bB (by simp[h0])]
def agx {k:Int}(hs:s.length<=200000):(ev E).call 122 [bv k,LV.str s] μ=some (.ret (bv (Hl k s)) μ):=by refine bW ?_;rw[aiD,yZ];simp only[bQ];rw[afK hs,bx,P3];unfold Hl;cases decide (0<=k)<;>cases decide (k<=6)<;>cases decide (k=3)<;>cases decide (k=4)<;>rfl
def WN (t:Tok):Int:=
 if !(decide (0<=t.kind)&&decide (t.kind<=2))then 15
 else if t.kind=1 then Hl t.type t.text
 else if t.type=0 then(if t.kind=0 then(if mO t.text then 0 else 4)else(if ek.contains t.text||dl.contains t.text then 0 else 7))
 else 3
def ail {t:Tok}(hs:t.text.length<=200000):(ev E).call 99 [LV.cv t.cv] μ=some (.ret (bv (WN t)) μ):=by
 refine bW ?_;obtain⟨a,b,s⟩:=t;show bJ E (ev E) 99 [LV.cv (CV.agg [bF a,bF b,CV.str s])] μ=_;rw[ak5,yZ];simp only[bQ];rw[agx hs,aia hs,M4];simp only[bQ];rw[ad2 cf];simp only[bQ];rw[M5];simp only[bQ];rw[ad2 cf];simp only[bQ];unfold WN;simp only;by_cases h1:a=1
 ·subst h1;rfl
 ·rw[cl h1,bI,bB h1];cases decide (0<=a)<;>cases decide (a<=2)<;>try rfl
  rw[j9,cS,bI,bB bE];by_cases hb:b=0
  ·rw[co hb,bC hb,cS,bI];by_cases ha:a=0
   ·rw[co ha,bC ha,bH];cases mO s<;>rfl
   ·rw[cl ha,bB ha,bI];cases ek.contains s<;>cases dl.contains s<;>rfl
  ·rw[cl hb,bB hb];rfl
end
structure Nd where
 kind:Int
 typ:Int
 text:List UInt8
 args:List Int
 deriving DecidableEq
def Nd.cv (x:Nd):CV:= .agg [.int .i64 x.kind,.int .i64 x.typ,.str x.text,.sl (x.args.map (CV.int .i64))]
def cO (l:List Nd):List CV:=l.map Nd.cv
inductive T where
 |mk (kind typ:Int) (text:List UInt8) (args:List (Option T))
def T.kind:T->Int| .mk k _ _ _=>k
def T.typ:T->Int| .mk _ t _ _=>t
def T.text:T->List UInt8| .mk _ _ s _=>s
def T.args:T->List (Option T)| .mk _ _ _ a=>a
mutual
def T.cv:T->CV
 | .mk k t s az=> .view [.int .i64 k,.int .i64 t,.str s,.sl (cr az)]
def cr:List (Option T)->List CV
 |[]=>[]|x::r=>i8 x::cr r
def i8:Option T->CV
 |none=> .v (.pointer none)|some t=>t.cv
end
mutual
def T.size:T->Nat
 | .mk _ _ _ az=>1+sizeA az
def sizeA:List (Option T)->Nat
 |[]=>0|x::r=>gT x+sizeA r
def gT:Option T->Nat
 |none=>0|some t=>t.size
end
def dO (b:Nat):List (Option T)->List Int
 |[]=>[]|none::r=> -1::dO b r|some t::r=>(((b+t.size:Nat):Int) -1)::dO (b+t.size) r
mutual
def T.flat (b:Nat):T->List Nd
 | .mk k t s az=>fe b az++[⟨k,t,s,dO b az⟩]
def fe (b:Nat):List (Option T)->List Nd
 |[]=>[]|x::r=>kG b x++fe (b+gT x) r
def kG (b:Nat):Option T->List Nd
 |none=>[]|some t=>t.flat b
end
mutual
def T.flat_len (b:Nat): ∀t:T,(t.flat b).length=t.size
 | .mk k t s az=>by rw[T.flat,T.size,ef,rW b az];simp;omega
def rW (b:Nat): ∀l:List (Option T),(fe b l).length=sizeA l
 |[]=>by rw[fe,sizeA];rfl|x::r=>by rw[fe,sizeA,ef,Y5 b x,rW _ r]
def Y5 (b:Nat): ∀x:Option T,(kG b x).length=gT x
 |none=>by rw[kG,gT];rfl|some t=>by rw[kG,gT];exact T.flat_len b t
end
def tn: ∀l:List (Option T),cr l=l.map i8
 |[]=>by rw[cr];rfl|x::r=>by rw[cr,tn r];rfl
section
variable {μ:Mu}
def ahe:List Int:=[10,10,10,0,10,10,7,7,4,9,8,8,7,7,6,5,5,5,5,5,5,3,2,1,1]
def ZB:List Int:=[0,0,1,3,2,1,1,1,1,2,2,2,2,2,2,2,2,2,2,2,2,2,2,2,2]
def ad8:List Int:=[0,0,7,3,2,1,1,1,1,2,2,2,2,2,2,2,2,2,2,2,2,2,2,2,2]
def ad9:List (List Int):=[[],[],[],[],[],[],[8],[8],[4],[10,9],[8,9],[8,9],[7,8],[7,8],[6,7],[6,6],[6,6],[6,6],[6,6],[6,6],[6,6],[3,4],[2,3],[1,2],[1,2]]
def aaC:List (List UInt8):=[[],[],[],[],[],[],[43],[45],[46,78,79,84,46],[42,42],[42],[47],[43],[45],[47,47],[46,76,84,46],[46,76,69,46],[46,69,81,46],[46,78,69,46],[46,71,69,46],[46,71,84,46],[46,65,78,68,46],[46,79,82,46],[46,69,81,86,46],[46,78,69,81,86,46]]
def lvl (k:Int):Int:=ahe.getD k.toNat 0
def agZ (k:Int):Int:=ZB.getD k.toNat 0
def vL (k:Int):Int:=ad8.getD k.toNat 0
def aim (k:Int):List Int:=ad9.getD k.toNat []
def tA (k:Int):List UInt8:=aaC.getD k.toNat []
def dQ (l:List Int):List CV:=l.map (CV.int .i64)
def alh (k:Nat):CV:=match ad9.getD k []with|[]=> .v (.slice none 0 0)|l=> .sl (dQ l)
def shp (k:Nat):List CV:=[.int .i64 (ahe.getD k 0),.int .i64 (ZB.getD k 0),.int .i64 (ad8.getD k 0),alh k,.str (aaC.getD k [])]
def tU:List CV:=(List.range 25).flatMap shp
theorem Ka {β:Type}{a b c:Int}{l:List CV}{s:List UInt8}{k:Int->Int->Int->List CV->List UInt8->Option β}:js (LV.cv (CV.agg [bF a,bF b,bF c,CV.sl l,CV.str s])) k=k a b c l s:=rfl
def Zj {a b c:Int}{d:List UInt8}:(ev E).call 119 [bv a,bv b,bv c,LV.str d] μ=some (.ret (LV.cv (CV.agg [bF a,bF (2:Int),bF (2:Int),CV.sl [bF b,bF c],CV.str d])) μ):=by refine bW ?_;rw[aiC]
def agw {d:List UInt8}:(ev E).call 118 [LV.str d] μ=some (.ret (LV.cv (CV.agg [bF 5,bF (2:Int),bF (2:Int),CV.sl [bF 6,bF 6],CV.str d])) μ):=by refine bW ?_;rw[aiB,Zj,bV,Ka]
def ad0:(ev E).call 69 [] μ=some (.ret (LV.cv (CV.agg tU)) μ):=by refine bW ?_;rw[akQ];simp only[Zj,agw,bV,Ka];rfl
def ahR: ∃d,E.P.underlying 113=some d:=by have h:(E.P.underlying 113).isSome=true:=bw;exact Option.isSome_iff_exists.1 h
def af7:dN E.P 113=true:=bw
def afP:er E.P 113=some 5:=bw
def afS {cs:List CV}{off:Nat}(h:off+5<=cs.length):nP E.P 113 cs off=some (.agg ((cs.drop off).take 5)):=by obtain⟨d,hd⟩:=ahR;have hb:Nat.ble (off+5) cs.length=true:=I4 h;simp only[nP,hd,bx,kZ,af7,afP,hb]
def Zc {i:Int}{n:Nat}(h0:0<=i)(h1:i<n):fo i n=true:=by simp[fo,h0,h1]
def adp {β:Type}{k:Int}(h0:0<=k)(h1:k<25){f:Int->Int->Int->List CV->List UInt8->Option β}:
 (bD (fo k 25) (opt (nP E.P 113 tU (Int.toNat k*5)) λc=>js (LV.cv c) f))=f (lvl k) (agZ k) (vL k) (dQ (aim k)) (tA k):=by
 obtain⟨n,rfl⟩:=Int.eq_ofNat_of_zero_le h0;have hn:n<25:=bu;rw[Zc h0 bu,cK,Int.toNat_natCast,afS (by show n*5+5<=125;omega),bx]
 iterate 25 (rcases n with _|n; · rfl)
 omega
def Nl (x:Int)(b:Bool):Option Int:=if b=true then some 7 else if x=14 then some 6 else if x=8 then some 4 else if x=21 then some 3 else if x=22 then some 2 else if x=23\/x=24 then some 1 else none
def adi {a x:Int}{b:Bool}:wB (ev E) a x b μ=some (match Nl x b with|some v=>kA v μ|none=>vo a μ):=by
 refine ck ?_;rw[acO];unfold Nl;cases b
 ·by_cases h1:x=14
  ·subst h1;rfl
  by_cases h2:x=8
  ·subst h2;rfl
  by_cases h3:x=21
  ·subst h3;rfl
  by_cases h4:x=22
  ·subst h4;rfl
  by_cases h5:x=23
  ·subst h5;rfl
  by_cases h6:x=24
  ·subst h6;rfl
  simp[h1,h2,h3,h4,h5,h6]
 ·rfl
def Nm (x:Int)(b:Bool):Option Int:=if b=true then some 8 else Nl x (decide (x=6\/x=7\/x=12\/x=13))
def afO {a x:Int}{b:Bool}:KH (ev E) a x b μ=some (match Nm x b with|some v=>um v μ|none=>yp a μ):=by
 refine ck ?_;have key: ∀b,opt (wB (ev E) a x b μ) (kS (ev E) H32 [] [(0,0)])=some (match Nl x b with|some v=>um v μ|none=>yp a μ):=by
  intro b;rw[adi,bx];cases Nl x b with|some v=>exact QS _ _ _|none=>exact QT _ _ _
 rw[afk];simp only[key];unfold Nm;cases b
 ·by_cases h1:x=6
  ·subst h1;rfl
  by_cases h2:x=7
  ·subst h2;rfl
  by_cases h3:x=12
  ·subst h3;rfl
  by_cases h4:x=13
  ·subst h4;rfl
  simp[h1,h2,h3,h4]
 ·rfl
def wh (k:Int):Int:=if k=9 then 9 else match Nm k (decide (k=10\/k=11))with|some v=>v|none=>if 15<=k/\k<=20 then 5 else 10
def ah9 {k:Int}:(ev E).call 32 [bv k] μ=some (.ret (bv (wh k)) μ):=by
 refine bW ?_;have key: ∀b,opt (KH (ev E) k k b μ) (kB (ev E) 32 H32 [.block 0,.seq (cN 32 7)])=some (.ret (bv (match Nm k b with|some v=>v|none=>if 15<=k/\k<=20 then 5 else 10)) μ):=by
  intro b;rw[afO,bx];cases Nm k b with|some v=>exact V3 _ _ _|none=>dsimp only;rw[V4,yZ];simp only[bQ];by_cases h1:15<=k<;>by_cases h2:k<=20<;>simp[h1,h2]
 rw[akC];simp only[key];unfold wh;by_cases h1:k=9
 ·subst h1;rfl
 by_cases h2:k=10
 ·subst h2;rfl
 by_cases h3:k=11
 ·subst h3;rfl
 simp[h1,h2,h3]
end
def rp (t:Int):Bool:=decide (t=0)||(decide (t=1)||decide (t=2))
def eM (t:T):Bool:=
 match decide (t.kind=6\/t.kind=7),t.args with
 |true,[some u]=>decide (u.kind=0)&&rp u.typ|_,_=>decide (t.kind=0)&&rp t.typ
section
variable {μ:Mu}
def M6 {t:Int}:(ev E).call 123 [bv t] μ=some (.ret (LV.bool (decide (t=0)||(decide (t=1)||decide (t=2)))) μ):=by refine bW ?_;rw[aiE];cases decide (t=0)<;>cases decide (t=1)<;>rfl
def sQ (t:T):t.cv= .view [.int .i64 t.kind,.int .i64 t.typ,.str t.text,.sl (cr t.args)]:=by cases t;rw[T.cv];rfl
def hJ (t:T):dJ t.cv=true:=by rw[sQ];rfl
def nH (t:T):noB t.cv=true:=by rw[sQ];rfl
def YZ (t:T):fJ 1 t.cv=true:=by rw[sQ];rfl
def gk (t:T):i8 (some t)=t.cv:=by rw[i8]
def kE:i8 none= .v (.pointer none):=by rw[i8]
def ab1 (x:Option T):fJ 1 (i8 x)=true:=by
 cases x with|none=>rw[kE];rfl|some t=>rw[gk];exact YZ t
def lI (x:Option T):dJ (i8 x)=true:=by
 cases x with|none=>rw[kE];rfl|some t=>rw[gk];exact hJ t
def lN: ∀(l:List (Option T)),gj 1 (cr l)=true
 |[]=>by rw[cr];rfl|x::r=>by rw[cr];simp only[gj,ab1,lN r]
def vW: ∀(l:List T),gj 1 (l.map T.cv)=true
 |[]=>rfl|t::r=>by rw[dr];simp only[gj,YZ,vW r]
def il (l:List (Option T)):(cr l).length=l.length:=by rw[tn];simp
def U4 (a b:List (Option T)):cr (a++b)=cr a++cr b:=by simp only[tn,uZ]
def tj (l:List (Option T))(n:Nat):cT (cr l) (n:Int)=(l[n]?).map i8:=by rw[eJ,tn,gM]
def Ft (t:T):uJ (LV.cv t.cv)=some false:=by rw[sQ];rfl
def M1 (t:T):lZ (LV.cv t.cv)=some false:=by rw[sQ];rfl
def Fu:uJ (LV.cv (i8 none))=some true:=by rw[kE];rfl
def abq (t:T):iU (LV.cv (mt t.cv))=some [.int .i64 t.kind,.int .i64 t.typ,.str t.text,.sl (cr t.args)]:=by rw[sQ];rfl
theorem MU {n:Int}:bN .i64 (LV.cv (bF n))=some n:=rfl
theorem TI {l:List CV}:cj (LV.cv (CV.sl l))=some l:=rfl
def ad1 {t:T}(h: ∀x,(t.kind=6\/t.kind=7)->t.args=[x]-> ∃u,x=some u):(ev E).call 76 [LV.cv t.cv] μ=some (.ret (LV.bool (eM t)) μ):=by
 refine bW ?_;rw[sQ,akR];have hl:((cr t.args).length:Int)=(t.args.length:Int):=by rw[il]
 have plain:(cond (decide (t.kind=(0:Int))) (callK ((ev E).call 123 [bv t.typ] μ) (λv29 μ30=>opt (bO v29) λb33=>some (.ret (LV.bool b33) μ30)) pP) (some (.ret (LV.bool false) μ)))=some (.ret (LV.bool (decide (t.kind=0)&&rp t.typ)) μ):=by rw[M6];simp only[bQ];cases decide (t.kind=0)<;>rfl
 have one: ∀u,t.args=[some u]->cT (cr t.args) (0:Int)=some u.cv:=by intro u hu;have:=tj t.args 0;rw[hu]at this |-;have e0:((0:Nat):Int)=0:=rfl;rw[e0]at this;rw[this,ft,gN,gk]
 rw[hl];by_cases h6:t.kind=6
 ·have h7:decide (t.kind=6\/t.kind=7)=true:=by simp[h6]
  rw[co h6,bH];by_cases h1:t.args.length=1
  ·obtain⟨x,hx⟩:=xN.1 h1;obtain⟨u,rfl⟩:=h x (.inl h6) hx;rw[show decide ((t.args.length:Int)=1)=true by simp[h1],bH,one u hx];simp only[bx,hJ,cK,M1,abq,c8,dc,MU,yU,TI,cR,M6];simp only[bQ];unfold eM;rw[h7,hx];dsimp only;unfold rp;cases decide (u.kind=0)<;>rfl
  ·rw[show decide ((t.args.length:Int)=1)=false by simp;omega,bI,plain];unfold eM;rw[h7];split
   ·rename_i u _ hu;rw[hu]at h1;simp at h1
   ·rfl
 ·rw[cl h6,bI];by_cases h8:t.kind=7
  ·have h7:decide (t.kind=6\/t.kind=7)=true:=by simp[h8]
   rw[co h8,bH];by_cases h1:t.args.length=1
   ·obtain⟨x,hx⟩:=xN.1 h1;obtain⟨u,rfl⟩:=h x (.inr h8) hx;rw[show decide ((t.args.length:Int)=1)=true by simp[h1],bH,one u hx];simp only[bx,hJ,cK,M1,abq,c8,dc,MU,yU,TI,cR,M6];simp only[bQ];unfold eM;rw[h7,hx];dsimp only;unfold rp;cases decide (u.kind=0)<;>rfl
   ·rw[show decide ((t.args.length:Int)=1)=false by simp;omega,bI,plain];unfold eM;rw[h7];split
    ·rename_i u _ hu;rw[hu]at h1;simp at h1
    ·rfl
  ·rw[cl h8,bI,plain];unfold eM;rw[show decide (t.kind=6\/t.kind=7)=false by simp[h6,h8]]
end
noncomputable def ovE (X:FuncId->Option iP):Env:={E with prim:=λf=>match X f with|some g=>some g|none=>E.prim f}
def aaI {X:FuncId->Option iP}{ρ:Rho}{f:FuncId}{args:List LV}{μ:Mu}(h:X f=none):bJ (ovE X) ρ f args μ=bJ E ρ f args μ:=by unfold bJ ovE;dsimp only;rw[h]
def aaJ {X:FuncId->Option iP}{ρ:Rho}{f:FuncId}{args:List LV}{μ:Mu}{g:iP}(h:X f=some g):bJ (ovE X) ρ f args μ=g args μ:=by unfold bJ ovE;dsimp only;rw[h]
def OM {X:FuncId->Option iP}(hX: ∀f g args μ out,X f=some g->g args μ=some out->(ev E).call f args μ=some out): ∀n,LimR (λ_=>ev E) (evn (ovE X) n)
 |0=>⟨λf args μ r h=>(by simp[evn]at h),λH lv c s μ r h=>(by simp[evn]at h),λH lv c s μ r h=>(by simp[evn]at h),λf pv args μ r h=>(by simp[evn]at h)⟩|n+1=>by
  have ih:=OM hX n;refine⟨λf args μ r h=>⟨0,λ_ _=> ?_⟩,λH lv c s μ r h=>⟨0,λ_ _=> ?_⟩,λH lv c s μ r h=>⟨0,λ_ _=> ?_⟩,λf pv args μ r h=>⟨0,λ_ _=> ?_⟩⟩
  ·have h:bJ (ovE X) (evn (ovE X) n) f args μ=some r:=h;cases hx:X f with
   |some g=>rw[aaJ hx]at h;exact hX f g args μ r hx h|none=>rw[aaI hx]at h;obtain⟨N,hN⟩:=BH ih (E:=E) (f:=f) (args:=args) (μ:=μ) r h;exact bW (hN N (ct _))
  ·obtain⟨N,hN⟩:=GS ih (P:=E.P) (H:=H) (lv:=lv) (c:=c) (s:=s) (μ:=μ) r h;exact TE (hN N (ct _))
  ·obtain⟨N,hN⟩:=Nf ih (P:=E.P) (H:=H) (lv:=lv) (c:=c) (s:=s) (μ:=μ) r h;exact Y1 (hN N (ct _))
  ·obtain⟨N,hN⟩:=zQ ih (E:=E) (f:=f) (pv:=pv) (args:=args) (μ:=μ) r h;exact ux (hN N (ct _))
def oI {X:FuncId->Option iP}(hX: ∀f g args μ out,X f=some g->g args μ=some out->(ev E).call f args μ=some out){n:Nat}{f:FuncId}{args:List LV}{μ:Mu}{out:Out}(h:(evn (ovE X) n).call f args μ=some out):(ev E).call f args μ=some out:=by obtain⟨N,hN⟩:=(OM hX n).call f args μ out h;exact hN N (ct _)
def ew (a:Int)(b:List UInt8):Nat->Nat->Option Nat
 |0,_=>none|m+1,k=>if vL k=2/\tA k≠[]/\lvl k=a/\tA k=b then some k else ew a b m (k+1)
def OK (a:Int)(b:List UInt8):LV:=match ew a b 25 0 with|some k=> .ltup [bv (k:Int),LV.bool true]|none=> .ltup [bv 0,LV.bool false]
section
variable {μ:Mu}
def ae6 {a:Int}{b:List UInt8}: ∀(m k:Nat),k+m=25->wF (ev E) a b tU (k:Int) μ=some (match ew a b m k with|some j=>A6 (j:Int) true μ|none=>A7 μ):=by
 intro m
 induction m with
 |zero=>intro k hk;refine cC ?_;rw[NL,show decide ((k:Int)<25)=false by simp;omega,bI];rfl|succ m ih=>
  intro k hk;refine cC ?_;rw[NL,show decide ((k:Int)<25)=true by simp;omega,bH,adp bu bu,dy bu,ih (k+1) bu,ew];revert ih;generalize tA (k:Int)=tx;intro ih;by_cases h4:tx=b
  ·subst h4;by_cases h1:vL (k:Int)=2<;>by_cases h2:tx=[]<;>by_cases h3:lvl (k:Int)=a<;>simp[h1,h2,h3]
  ·by_cases h1:vL (k:Int)=2<;>by_cases h2:tx=[]<;>by_cases h3:lvl (k:Int)=a<;>simp[h1,h2,h3,h4]
def M9 {a:Int}{b:List UInt8}:(ev E).call 163 [bv a,LV.str b] μ=some (.ret (OK a b) μ):=by
 refine bW ?_;have h:=ae6 (μ:=μ) (a:=a) (b:=b) 25 0 rfl;have e0:((0:Nat):Int)=0:=rfl;rw[e0]at h;have eag:jZ (LV.cv (CV.agg tU))=some tU:=rfl;rw[ai1,ad0,bV,eag,bx,h,bx];unfold OK;cases ew a b 25 0 with|some j=>exact Rm _ _ _ _|none=>exact Rn _ _
end
def Uf:iP:=λargs μ=>opt (bZ args) λ_=>some (.ret (LV.cv (CV.agg tU)) μ)
def aef:iP:=λargs μ=>opt (bG args) λq=>opt (bG q.2) λr=>opt (bZ r.2) λ_=>opt (bN .i64 q.1) λa=>opt (cg r.1) λb=>some (.ret (OK a b) μ)
def zk:FuncId->Option iP
 |69=>some Uf|163=>some aef|_=>none
def qT: ∀f g args μ out,zk f=some g->g args μ=some out->(ev E).call f args μ=some out:=by
 intro f g args μ out hf h;unfold zk at hf;split at hf
 ·injection hf with hf;subst hf;unfold Uf at h;obtain⟨u,h1,h2⟩:=cF h;rw[jc h1];injection h2 with h2;subst h2;exact ad0
 ·injection hf with hf;subst hf;unfold aef at h;obtain⟨q,h1,h⟩:=cF h;obtain⟨r,h2,h⟩:=cF h;obtain⟨u,h3,h⟩:=cF h;obtain⟨a,h4,h⟩:=cF h;obtain⟨b,h5,h⟩:=cF h;injection h with h;subst h;rw[fg h1,fg h2,jc h3,yT h4,kI h5];exact M9
 ·cases hf
def opR:List Tok->List UInt8
 |x::_=>if x.kind=2 then x.text else []|[]=>[]
def cI (s:List UInt8)(r:List Tok):Option (List Tok):=if opR r=s then some r.tail else none
abbrev PR (α:Type):=Option (Option (α×List Tok))
def cY {α β:Type}(x:PR α)(k:α->List Tok->PR β):PR β:=match x with
 |none=>none|some none=>some none|some (some q)=>k q.1 q.2
def d9 {α:Type}(a:α)(r:List Tok):PR α:=some (some (a,r))
def failP {α:Type}:PR α:=some none
def jJ {α:Type}(s:List UInt8)(r:List Tok)(k:List Tok->PR α):PR α:=match cI s r with
 |some r=>k r|none=>failP
def un (k:Int)(t:T):T:= .mk k 0 [] [some t]
def bin (k:Int)(t u:T):T:= .mk k 0 [] [some t,some u]
def mA (r:List Tok):Bool:=decide (opR r=[58])||decide (opR r=[44])||decide (opR r=[41])
mutual
def cJ:Nat->Nat->List Tok->PR T
 |0,_,_=>none|f+1,n,r=>
  if n=10 then gR f r
  else if n=9 then cY (gR f r) λt r=>match cI [42,42] r with
   |some r=>cY (cJ f 9 r) λu r=>d9 (bin 9 t u) r|none=>d9 t r
  else if n=4 then match cI [46,78,79,84,46] r with
   |some r=>cY (cJ f 4 r) λu r=>d9 (un 8 u) r|none=>cJ f 5 r
  else if n=5 then cY (cJ f 6 r) λt r=>match ew 5 (opR r) 25 0 with
   |some k=>cY (cJ f 6 r.tail) λu r=>d9 (bin k t u) r|none=>d9 t r
  else cY (fv f n r) λt r=>gm f n t r
def fv:Nat->Nat->List Tok->PR T
 |0,_,_=>none|f+1,n,r=>
  if n=7 then match cI [43] r with
   |some r=>cY (cJ f 8 r) λu r=>d9 (un 6 u) r|none=>match cI [45] r with
    |some r=>cY (cJ f 8 r) λu r=>d9 (un 7 u) r|none=>cJ f (n+1) r
  else cJ f (n+1) r
def gm:Nat->Nat->T->List Tok->PR T
 |0,_,_,_=>none|f+1,n,t,r=>match ew n (opR r) 25 0 with
  |some k=>cY (cJ f (n+1) r.tail) λu r=>gm f n (bin k t u) r|none=>d9 t r
def gR:Nat->List Tok->PR T
 |0,_=>none|f+1,r=>match r with
  |[]=>failP|x::r=>
   if x.kind=1 then d9 (.mk 0 x.type x.text []) r
   else if x.kind=0 then match cI [40] r with
    |some r=>cY (gQ f [] r) λl r=>d9 (.mk 2 0 x.text (l.map some)) r|none=>d9 (.mk 1 0 x.text []) r
   else if x.text=[40]then cY (cJ f 1 r) λt r=>match cI [44] r with
    |some r=>cY (cJ f 1 r) λu r=>if eM t&&eM u then jJ [41] r λr=>d9 (bin 4 t u) r else failP|none=>jJ [41] r λr=>d9 (un 5 t) r
   else failP
def gQ:Nat->List T->List Tok->PR (List T)
 |0,_,_=>none|f+1,acc,r=>cY (kn f r) λa r=>match cI [44] r with
  |some r=>gQ f (acc++[a]) r|none=>jJ [41] r λr=>d9 (acc++[a]) r
def iH:Nat->List Tok->PR (Option T)
 |0,_=>none|f+1,r=>if mA r then d9 none r else cY (cJ f 1 r) λt r=>d9 (some t) r
def kn:Nat->List Tok->PR T
 |0,_=>none|f+1,r=>cY (iH f r) λa r=>match cI [58] r with
  |none=>match a with
   |some t=>d9 t r|none=>failP
  |some r=>cY (iH f r) λb r=>match cI [58] r with
   |some r=>cY (cJ f 1 r) λc r=>d9 (.mk 3 0 [] [a,b,some c]) r|none=>d9 (.mk 3 0 [] [a,b,none]) r
end
def rO (l:List Tok)(n:Nat):Ob:= .cells [LV.cv (CV.sl (bS l)),bv (n:Int)]
def gh:CV:=CV.iface 137 (CV.agg [bF (7:Int)])
def rS (μ:Mu)(lv i:Nat)(l:List Tok)(n:Nat):Mu:=cx μ lv i (rO l n)
section
variable {μ:Mu}{lv i n:Nat}{l:List Tok}
def qV {a b:LV}:cw E.P 35 (.cells [a,b]) 0=some (strip a):=bw
def vR {a b:LV}:cw E.P 3 (.cells [a,b]) 1=some (strip b):=bw
def Xd {a b:LV}{n:Int}:dv E.P 3 (.cells [a,b]) 1 (bv n)=some (.cells [a,bv n]):=bw
def jM (l:List Tok):(bS l).length=l.length:=by simp[bS]
def qm {l:List Tok}{n:Nat}:cT (bS l) (n:Int)=(l[n]?).map Tok.cv:=by rw[eJ];simp[bS]
theorem m7 {β:Type}{x:Tok}{k:Int->Int->List UInt8->Option β}:iy (LV.cv x.cv) k=k x.kind x.type x.text:=rfl
def GP (h:ce μ lv i=rO l n):(ev E).call 164 [LV.cv (CV.ref lv i 0)] μ=some (.ret (LV.str (opR (l.drop n))) μ):=by
 refine bW ?_;rw[ai2,h];unfold rO;have e1: ∀m:Int,strip (bv m)=bv m:=λ_=>rfl;have e2:strip (LV.cv (CV.sl (bS l)))=LV.cv (CV.sl (bS l)):=rfl;simp only[vR,qV,e1,e2,bx,eo,o6,jM];by_cases hn:n<l.length
 ·rw[show decide ((n:Int)<(l.length:Int))=true by simp;omega,bH,qm,dK hn,gN,bx,m7,dY hn,opR];by_cases hk:l[n].kind=2
  ·rw[co hk,bH,bC hk,bx,m7]
  ·rw[cl hk,bI,bB hk]
 ·rw[show decide ((n:Int)<(l.length:Int))=false by simp;omega,bI,dS bu];rfl
def ajz (h:ce μ lv i=rO l n)(m:Nat):ce (rS μ lv i l m) lv i=rO l m:=by unfold rS;rw[zd (by rw[h];trivial),bC ⟨rfl,rfl⟩]
def kN {m k:Nat}:rS (rS μ lv i l m) lv i l k=rS μ lv i l k:=vM
def VN {μ:Mu}{lv i:Nat}{o:Ob}(h:ce μ lv i=o)(hl:b8 o):cx μ lv i o=μ:=by
 unfold ce at h;unfold cx;cases hx:μ[lv]? with
 |none=>rfl|some x=>
  rw[hx]at h;dsimp only at h |-;obtain⟨h1,h2⟩:=dP.1 hx;cases hy:x[i]? with
  |none=>rw[hy]at h;subst h;exact hl.elim|some y=>rw[hy]at h;dsimp only at h;subst h;obtain⟨h3,h4⟩:=dP.1 hy;subst h2 h4;rw[List.set_getElem_self,List.set_getElem_self]
def xg (h:ce μ lv i=rO l n):rS μ lv i l n=μ:=VN h trivial
def aaS (m:Nat):(rS μ lv i l m).length=μ.length:=lG.1
def Bp {β:Type}(h:ce μ lv i=rO l n)(hn:n<=1000000000){k:Ob->Option β}:(opt (cw E.P 3 (ce μ lv i) 1) λv6=>opt (bN .i64 v6) λn7=>opt (dv E.P 3 (ce μ lv i) 1 (bv (IntKind.wrap .i64 (n7+(1:Int))))) k)=k (rO l (n+1)):=by rw[h];unfold rO;have e1: ∀m:Int,strip (bv m)=bv m:=λ_=>rfl;simp only[vR,e1,bx,eo,Xd];rw[dy hn]
def sd (h:ce μ lv i=rO l n)(hn:n<=1000000000){s:List UInt8}:(ev E).call 162 [LV.cv (CV.ref lv i 0),LV.str s] μ=some (match cI s (l.drop n)with|some _=> .ret (LV.bool true) (rS μ lv i l (n+1))|none=> .ret (LV.bool false) μ):=by
 refine bW ?_;rw[ai0,GP h,bV,dT,bx];unfold cI;by_cases ho:opR (l.drop n)=s
 ·rw[co ho,cS,bI,bC ho];have:Xn (ev E) lv i μ=some (Aq true (rS μ lv i l (n+1))):=by refine ck ?_;rw[act,Bp h hn];rfl
  rw[this,bx];exact Qi _ _ _
 ·rw[cl ho,c8,bH,bB ho]
def wZ:(ev E).call 183 [] μ=some (.panic gh μ):=by refine bW ?_;rw[ai6];rfl
def agK (h:ce μ lv i=rO l n)(hn:n<=1000000000){s:List UInt8}:(ev E).call 185 [LV.cv (CV.ref lv i 0),LV.str s] μ=some (match cI s (l.drop n)with|some _=> .ret (LV.ltup []) (rS μ lv i l (n+1))|none=> .panic gh μ):=by
 refine bW ?_;rw[ai8,sd h hn];cases cI s (l.drop n)with|some _=>rfl|none=>dsimp only;rw[bV,bX,bx,c8,bH,wZ,eu];rfl
end
section
variable {μ:Mu}{lv i n:Nat}{l:List Tok}
structure Rdr (μ:Mu) (lv i:Nat) (l:List Tok) (n:Nat):Prop where
 ob:ce μ lv i=rO l n
 le:n<=l.length
 few:l.length<=100000
 lt:lv<μ.length
def Rdr.to (h:Rdr μ lv i l n){m:Nat}(hm:m<=l.length):Rdr (rS μ lv i l m) lv i l m:=⟨ajz h.ob m,hm,h.few,by rw[aaS];exact h.lt⟩
def Rdr.small (h:Rdr μ lv i l n):n<=1000000000:=by have:=h.le;have:=h.few;omega
def cm {α γ:Type}(μ:Mu)(lv i:Nat)(l:List Tok)(res:Option (α×List Tok))(good:α->Mu->γ)(bad:Mu->γ)(x:Option γ):Prop:=match res with
 |some q=> ∃n,q.2=l.drop n/\n<=l.length/\x=some (good q.1 (rS μ lv i l n))|none=> ∃n,x=some (bad (rS μ lv i l n))
def cm.up {α γ:Type}{m:Nat}{res:Option (α×List Tok)}{good:α->Mu->γ}{bad:Mu->γ}{x:Option γ}(h:cm (rS μ lv i l m) lv i l res good bad x):cm μ lv i l res good bad x:=by
 unfold cm at h |-;cases res with
 |none=>obtain⟨n,h⟩:=h;exact⟨n,by rw[h,kN]⟩
 |some q=>obtain⟨n,a,b,h⟩:=h;exact⟨n,a,b,by rw[h,kN]⟩
def ff (t:T)(μ:Mu):Out:= .ret (LV.cv t.cv) μ
def iR (μ:Mu):Out:= .panic gh μ
def fU {α β:Type}{x:PR α}{k:α->List Tok->PR β}{res:Option (β×List Tok)}(h:cY x k=some res):(x=some none/\res=none)\/ ∃a r,x=some (some (a,r))/\k a r=some res:=by
 cases x with
 |none=>cases h|some y=>
  cases y with
  |none=>injection h with h;exact .inl ⟨rfl,h.symm⟩
  |some q=>exact .inr ⟨q.1,q.2,rfl,h⟩
def gU {s r:_}(hs:s≠[])(h:cI s (l.drop n)=some r):n+1<=l.length/\r=l.drop (n+1):=by
 unfold cI at h;split at h
 ·rename_i ho;injection h with h;have hn:n<l.length:=by
   rcases fu n l.length with hn|hn
   ·exact hn
   ·rw[dS hn]at ho;exact absurd ho.symm hs
  exact⟨hn,by rw[<-h,List.tail_drop]⟩
 ·cases h
def uM (lv i:Nat)(c:LV):Lam:=[Ob.cells [LV.cv (CV.ref lv i 0)],Ob.cells [c]]
structure PAll (f:Nat):Prop where
 level: ∀{μ lv i l n k res},Rdr μ lv i l n->1<=k->k<=10->cJ f k (l.drop n)=some res->cm μ lv i l res ff iR ((ev E).call 139 [LV.cv (CV.ref lv i 0),bv (k:Int)] μ)
 first: ∀{μ lv i l n k res},Rdr μ lv i l n->1<=k->k<=9->fv f k (l.drop n)=some res->cm μ lv i l res ff iR ((ev E).call 165 [LV.cv (CV.ref lv i 0),bv (k:Int)] μ)
 loop: ∀{μ lv i l n k t res},Rdr μ lv i l n->1<=k->k<=9->gm f k t (l.drop n)=some res->cm μ lv i l res (λt μ=>tf t.cv μ) (λμ=>nq gh μ) (CH (ev E) lv i (k:Int) t.cv μ)
 prim: ∀{μ lv i l n res},Rdr μ lv i l n->gR f (l.drop n)=some res->cm μ lv i l res ff iR ((ev E).call 161 [LV.cv (CV.ref lv i 0)] μ)
 list: ∀{μ lv i l n acc res},Rdr μ lv i l n->acc.length<=n->gQ f acc (l.drop n)=some res->cm μ lv i l res (λts μ=> .ret (LV.osl (ts.map T.cv)) μ) iR (opt (FS (ev E) lv i (acc.map T.cv) μ) (kB (ev E) 184 En [.block 0,.seq (cN 184 15)]))
 part: ∀{μ lv i l n ps c res},Rdr μ lv i l n->ps.length<=10->iJ c=some (cr ps)->iH f (l.drop n)=some res->
  cm μ lv i l res (λa ν=> .ret (LV.ltup []) (ν++[uM lv i (LV.osl (cr (ps++[a])))])) (λν=> .panic gh (ν++[[Ob.cells [LV.cv (CV.ref lv i 0)],.dead]])) ((ev E).call 222 [LV.cv (CV.ref μ.length 0 0),LV.cv (CV.ref μ.length 1 0)] (μ++[uM lv i c]))
 arg: ∀{μ lv i l n res},Rdr μ lv i l n->kn f (l.drop n)=some res->cm μ lv i l res ff iR ((ev E).call 204 [LV.cv (CV.ref lv i 0)] μ)
def cm.ev {α:Type}{res:Option (α×List Tok)}{good:α->Mu->Out}{bad:Mu->Out}{f:FuncId}{args:List LV}{μ0:Mu}(h:cm μ lv i l res good bad (bJ E (ev E) f args μ0)):cm μ lv i l res good bad ((ev E).call f args μ0):=by
 unfold cm at h |-;cases res with
 |none=>obtain⟨n,e⟩:=h;exact⟨n,bW e⟩
 |some q=>obtain⟨n,a,b,e⟩:=h;exact⟨n,a,b,bW e⟩
def cm.callK {α β γ:Type}{res1:Option (β×List Tok)}{res:Option (α×List Tok)}{good1:β->LV}{good:α->Mu->γ}{bad:Mu->γ}{x:Option Out}{f:LV->Mu->Option γ}{p:CV->Mu->Option γ}
 (hx:cm μ lv i l res1 (λa μ=> .ret (good1 a) μ) iR x) (hn:res1=none->res=none) (hp: ∀μ',p gh μ'=some (bad μ'))
 (hs: ∀t n,res1=some (t,l.drop n)->n<=l.length->cm (rS μ lv i l n) lv i l res good bad (f (good1 t) (rS μ lv i l n))):cm μ lv i l res good bad (Go.Abs.callK x f p):=by
 cases res1 with
 |none=>obtain⟨n,e⟩:=hx;rw[hn rfl,e];exact⟨n,hp _⟩
 |some q=>obtain⟨n,a,b,e⟩:=hx;rw[e];refine(hs q.1 n ?_ b).up;rw[<-a]
def cm.one {res1:Option (T×List Tok)}{x:Option Out}{g:T->T}{f:LV->Mu->Option Out}(hx:cm μ lv i l res1 ff iR x)(hf: ∀t μ',f (LV.cv t.cv) μ'=some (ff (g t) μ')):
 cm μ lv i l (res1.map λq=>(g q.1,q.2)) ff iR (Go.Abs.callK x f pP):=by
 refine cm.callK (good1:=λt:T=>LV.cv t.cv) hx (λh=>by rw[h];rfl) (λ_=>rfl) λt n h hn=> ?_;rw[h,hf];exact⟨n,rfl,hn,by rw[kN]⟩
end
section
variable {μ:Mu}{lv i n k f:Nat}{l:List Tok}{res:Option (T×List Tok)}
def rc {k t:Int}{s:List UInt8}{x:List (Option T)}:(T.mk k t s x).cv=CV.view [bF k,bF t,CV.str s,CV.sl (cr x)]:=by rw[T.cv]
def K5 {k:Int}{t:T}:(un k t).cv=CV.view [bF k,bF 0,CV.str [],CV.sl [t.cv]]:=by unfold un;rw[rc,cr,cr,i8]
def Gf {k:Int}{t u:T}:(bin k t u).cv=CV.view [bF k,bF 0,CV.str [],CV.sl [t.cv,u.cv]]:=by unfold bin;rw[rc,cr,cr,cr,i8,i8]
def gF {t:T}:cW (LV.cv t.cv)=some t.cv:=by rw[sQ];rfl
def ut {g:T->T}{x:PR T}(h:cY x (λu r=>d9 (g u) r)=some res): ∃res1,x=some res1/\res=res1.map λq=>(g q.1,q.2):=by
 rcases fU h with⟨h1,h2⟩|⟨a,r,h1,h2⟩
 ·exact⟨none,h1,by rw[h2];rfl⟩
 ·injection h2 with h2;exact⟨some (a,r),h1,h2.symm⟩
def cm.imp {α γ:Type}{res:Option (α×List Tok)}{good:α->Mu->γ}{bad:Mu->γ}{x y:Option γ}(hx:cm μ lv i l res good bad x)(h: ∀r,x=some r->y=some r):cm μ lv i l res good bad y:=by
 unfold cm at hx |-;cases res with
 |none=>obtain⟨n,e⟩:=hx;exact⟨n,h _ e⟩
 |some q=>obtain⟨n,a,b,e⟩:=hx;exact⟨n,a,b,h _ e⟩
def cm.opt {α γ δ:Type}{res:Option (α×List Tok)}{good:α->Mu->γ}{bad:Mu->γ}{good':α->Mu->δ}{bad':Mu->δ}{x:Option γ}{k:γ->Option δ}(hx:cm μ lv i l res good bad x)(hg: ∀a μ',k (good a μ')=some (good' a μ'))(hb: ∀μ',k (bad μ')=some (bad' μ')):cm μ lv i l res good' bad' (Go.Abs.opt x k):=by
 unfold cm at hx |-;cases res with
 |none=>obtain⟨n,e⟩:=hx;exact⟨n,by rw[e];exact hb _⟩
 |some q=>obtain⟨n,a,b,e⟩:=hx;exact⟨n,a,b,by rw[e];exact hg _ _⟩
def cm.map {α β γ:Type}{res:Option (β×List Tok)}{g:β->α}{good:α->Mu->γ}{bad:Mu->γ}{x:Option γ}(hx:cm μ lv i l res (λa μ=>good (g a) μ) bad x):cm μ lv i l (res.map λq=>(g q.1,q.2)) good bad x:=by
 cases res with|none=>exact hx|some q=>exact hx
def Vo (ih:PAll f)(h:Rdr μ lv i l n)(h1:1<=k)(h9:k<=9)(hp:fv (f+1) k (l.drop n)=some res):
 cm μ lv i l res ff iR ((ev E).call 165 [LV.cv (CV.ref lv i 0),bv (k:Int)] μ):=by
 have plain: ∀{res},cJ f (k+1) (l.drop n)=some res->cm μ lv i l res ff iR (callK ((ev E).call 139 [LV.cv (CV.ref lv i 0),bv (IntKind.wrap .i64 ((k:Int)+(1:Int)))] μ) (λv27 μ28=>opt (cW v27) λc31=>some (.ret (LV.cv c31) μ28)) pP):=by intro res hp;rw[dy bu];have:=cm.one (g:=id) (ih.level h bu bu hp) (f:=λv27 μ28=>opt (cW v27) λc31=>some (.ret (LV.cv c31) μ28)) (λt μ'=>by simp only[gF,bx];rfl);simpa using this
 have sign: ∀{g:Int} {res},cY (cJ f 8 (l.drop (n+1))) (λu r=>d9 (un g u) r)=some res->n+1<=l.length->
  cm μ lv i l res ff iR (callK ((ev E).call 139 [LV.cv (CV.ref lv i 0),bv (8:Int)] (rS μ lv i l (n+1))) (λv6 μ7=>opt (cW v6) λc10=>bD (dJ c10) (bD (noB c10&&true) (some (.ret (LV.cv (CV.view [bF g,bF (0:Int),CV.str ([]:List UInt8),CV.sl [c10]])) μ7)))) pP):=by
  intro g res hp hn;obtain⟨res1,e1,rfl⟩:=ut hp;refine(cm.one (ih.level (k:=8) (h.to hn) bu bu e1) λt μ'=> ?_).up;simp only[gF,bx,hJ,cK,nH,j9,K5,ff]
 refine cm.ev ?_;rw[ai3];rw[fv]at hp;by_cases c7:k=7
 ·subst c7;rw[bC rfl]at hp;rw[show decide (((7:Nat):Int)=7)=true from rfl,bH,sd h.ob h.small];cases t1:cI [43] (l.drop n)with
  |some r=>obtain⟨hn,rfl⟩:=gU bE t1;rw[t1]at hp;dsimp only at hp |-;rw[bV,bX,bx,bH];exact sign hp hn
  |none=>
   rw[t1]at hp;dsimp only at hp |-;rw[bV,bX,bx,bI];cases t2:cI [45] (l.drop n)with
   |some r=>
    obtain⟨hn,rfl⟩:=gU bE t2;rw[t2]at hp;dsimp only at hp;obtain⟨res1,e1,rfl⟩:=ut hp;refine cm.map ?_;refine cm.opt (good:=λu μ=>Ar 7 0 [] [u.cv] μ) (bad:=λμ=>ve gh μ) ?_ (λu μ'=> ?_) (λμ'=> ?_)
    ·refine cm.imp (x:=(Ie lv i ((7:Nat):Int)).sK (ev E) μ) ?_ λr hr=>ck hr;rw[Nt,sd h.ob h.small,t2];dsimp only;rw[bV,bX,bx,bH];refine(cm.callK (good1:=λt:T=>LV.cv t.cv) (ih.level (k:=8) (h.to hn) bu bu e1) (λh=>h) (λ_=>rfl) λt m h3 hm=> ?_).up;rw[h3];refine⟨m,rfl,hm,?_⟩;simp only[gF,bx,hJ,cK,nH,j9,kN]
    ·rw[Qj];simp only[ff,K5]
    ·rw[Qk];rfl
   |none=>
    rw[t2]at hp;dsimp only at hp;have:Xo (ev E) lv i ((7:Nat):Int) μ=some (As lv i ((7:Nat):Int) μ):=by refine ck ?_;rw[Nt,sd h.ob h.small,t2];rfl
    rw[this,bx,Ql];exact plain hp
 ·rw[bB c7]at hp;rw[show decide ((k:Int)=7)=false by simp;omega,bI];exact plain hp
def cm.bind {α β γ δ:Type}{res1:Option (β×List Tok)}{res:Option (α×List Tok)}{good1:β->Mu->γ}{bad1:Mu->γ}{good:α->Mu->δ}{bad:Mu->δ}{x:Option γ}{kk:γ->Option δ}
 (hx:cm μ lv i l res1 good1 bad1 x) (hn:res1=none->res=none) (hb: ∀μ',kk (bad1 μ')=some (bad μ'))
 (hs: ∀a n,res1=some (a,l.drop n)->n<=l.length->cm (rS μ lv i l n) lv i l res good bad (kk (good1 a (rS μ lv i l n)))):cm μ lv i l res good bad (Go.Abs.opt x kk):=by
 cases res1 with
 |none=>obtain⟨n,e⟩:=hx;rw[hn rfl,e];exact⟨n,hb _⟩
 |some q=>obtain⟨n,a,b,e⟩:=hx;rw[e];refine(hs q.1 n ?_ b).up;rw[<-a]
def lH {a:Int}{b:List UInt8}: ∀{m k j:Nat},ew a b m k=some j->b≠[]
 |0,k,j,h=>by cases h|m+1,k,j,h=>by
  unfold ew at h;split at h
  ·rename_i hc;rw[<-hc.2.2.2];exact hc.2.1
  ·exact lH h
def IE (h:opR (l.drop n)≠[]):n+1<=l.length/\(l.drop n).tail=l.drop (n+1):=by
 refine⟨?_,by rw[List.tail_drop]⟩;rcases fu n l.length with hn|hn
 ·exact hn
 ·rw[dS hn]at h;exact absurd rfl h
def ZP (ih:PAll f){t:T}(h:Rdr μ lv i l n)(h1:1<=k)(h9:k<=9)(hp:gm (f+1) k t (l.drop n)=some res):
 cm μ lv i l res (λt μ=>tf t.cv μ) (λμ=>nq gh μ) (CH (ev E) lv i (k:Int) t.cv μ):=by
 refine cm.imp (x:=(E8 lv i (k:Int) t.cv).rK (ev E) μ) ?_ λr hr=>cC hr;rw[aan,GP h.ob,bV,dT,bx,M9,bV];rw[gm]at hp;unfold OK;cases ho:ew (k:Int) (opR (l.drop n)) 25 0 with
 |none=>rw[ho]at hp;injection hp with hp;subst hp;exact⟨n,rfl,h.le,by rw[xg h.ob];rfl⟩
 |some j=>
  rw[ho]at hp;dsimp only at hp |-;obtain⟨hn,ht⟩:=IE (lH ho);rw[ht]at hp;obtain⟨res1,e1,e2⟩: ∃res1,cJ f (k+1) (l.drop (n+1))=some res1/\((res1=none/\res=none)\/ ∃a r,res1=some (a,r)/\gm f k (bin j t a) r=some res):=by
   rcases fU hp with⟨h1,h2⟩|⟨a,r,h1,h2⟩
   ·exact⟨none,h1,.inl ⟨rfl,h2⟩⟩
   ·exact⟨some (a,r),h1,.inr ⟨a,r,rfl,h2⟩⟩
  simp only[bQ];refine cm.bind (res1:=res1) (good1:=λu μ=>yb lv i (k:Int) (j:Int) 0 [] [t.cv,u.cv] μ) (bad1:=λμ=>yc gh μ) ?_ (λh0=> ?_) (λμ'=> ?_) λu m h3 hm=> ?_
  ·refine cm.imp (x:=(E7 lv i (k:Int) t.cv (j:Int)).sK (ev E) μ) ?_ λr hr=>ck hr;rw[Z8,Bp h.ob h.small,dy bu];refine(cm.callK (good1:=λt:T=>LV.cv t.cv) (ih.level (k:=k+1) (h.to hn) bu bu e1) (λh=>h) (λ_=>rfl) λu m h3 hm=> ?_).up;rw[h3];refine⟨m,rfl,hm,?_⟩;simp only[gF,bx,hJ,cK,nH,j9,kN]
  ·rcases e2 with⟨_,e⟩|⟨a,r,e,_⟩
   ·exact e
   ·rw[h0]at e;cases e
  ·rw[N7]
  ·rw[N6];rcases e2 with⟨e,_⟩|⟨a,r,e,e3⟩
   ·rw[h3]at e;cases e
   ·rw[h3]at e;injection e with e;injection e with e4 e5;subst e4 e5;have:=ih.loop (t:=bin j t u) (h.to hm) h1 h9 e3;rw[Gf]at this;exact this
def cm.same {x:Option Out}{f:LV->Mu->Option Out}(hx:cm μ lv i l res ff iR x)(hf: ∀t μ',f (LV.cv (T.cv t)) μ'=some (ff t μ')):cm μ lv i l res ff iR (Go.Abs.callK x f pP):=by have:=cm.one (g:=id) hx hf;simpa using this
def aa0 (ih:PAll f)(h:Rdr μ lv i l n)(h1:1<=k)(h9:k<=9)(hp:cY (fv f k (l.drop n)) (λt r=>gm f k t r)=some res):
 cm μ lv i l res (λt μ=>ya t.cv μ) (λμ=>sZ gh μ) (R8 (ev E) lv i (k:Int) μ):=by
 refine cm.imp (x:=(E6 lv i (k:Int)).sK (ev E) μ) ?_ λr hr=>ck hr;rw[Z7];obtain⟨res1,e1,e2⟩: ∃res1,fv f k (l.drop n)=some res1/\((res1=none/\res=none)\/ ∃a r,res1=some (a,r)/\gm f k a r=some res):=by
  rcases fU hp with⟨h1,h2⟩|⟨a,r,h1,h2⟩
  ·exact⟨none,h1,.inl ⟨rfl,h2⟩⟩
  ·exact⟨some (a,r),h1,.inr ⟨a,r,rfl,h2⟩⟩
 refine cm.callK (good1:=λt:T=>LV.cv t.cv) (ih.first h h1 h9 e1) (λh0=> ?_) (λ_=>rfl) λu m h3 hm=> ?_
 ·rcases e2 with⟨_,e⟩|⟨a,r,e,_⟩
  ·exact e
  ·rw[h0]at e;cases e
 ·rw[gF,bx];rcases e2 with⟨e,_⟩|⟨a,r,e,e3⟩
  ·rw[h3]at e;cases e
  ·rw[h3]at e;injection e with e;injection e with e4 e5;subst e4 e5;exact cm.opt (ih.loop (h.to hm) h1 h9 e3) (λa μ'=>Ow _ _ _) (λμ'=>Ox _ _ _)
def VE (ih:PAll f)(h:Rdr μ lv i l n)(h1:1<=k)(h10:k<=10)(hp:cJ (f+1) k (l.drop n)=some res):
 cm μ lv i l res ff iR ((ev E).call 139 [LV.cv (CV.ref lv i 0),bv (k:Int)] μ):=by
 refine cm.ev ?_;rw[aiM];rw[cJ]at hp;have hs: ∀(t:T) (μ':Mu),(opt (cW (LV.cv t.cv)) λc=>(some (.ret (LV.cv c) μ'):Option Out))=some (ff t μ'):=λt μ'=>by rw[gF,bx];rfl
 by_cases c10:k=10
 ·subst c10;rw[bC rfl]at hp;rw[show decide (((10:Nat):Int)=10)=true from rfl,bH];exact cm.same (ih.prim h hp) hs
 rw[bB c10]at hp;rw[show decide ((k:Int)=10)=false by simp;omega,bI];by_cases c9:k=9
 ·subst c9;rw[bC rfl]at hp;rw[show decide (((9:Nat):Int)=9)=true from rfl,bH]
  obtain ⟨res1, e1, e2⟩ : ∃ res1, gR f (l.drop n) = some res1 /\ ((res1 = none /\ res = none) \/ ∃ a r, res1 = some (a, r) /\ (match cI [42, 42] r with
   |some r=>cY (cJ f 9 r) λu r=>d9 (bin 9 a u) r
   |none=>d9 a r)=some res):=by
   rcases fU hp with⟨h1,h2⟩|⟨a,r,h1,h2⟩
   ·exact⟨none,h1,.inl ⟨rfl,h2⟩⟩
   ·exact⟨some (a,r),h1,.inr ⟨a,r,rfl,h2⟩⟩
  refine cm.callK (good1:=λt:T=>LV.cv t.cv) (ih.prim h e1) (λh0=> ?_) (λ_=>rfl) λt m h3 hm=> ?_
  ·rcases e2 with⟨_,e⟩|⟨a,r,e,_⟩
   ·exact e
   ·rw[h0]at e;cases e
  ·rcases e2 with⟨e,_⟩|⟨a,r,e,e3⟩
   ·rw[h3]at e;cases e
   ·rw[h3]at e;injection e with e;injection e with e4 e5;subst e4 e5;have h':=h.to hm;rw[gF,bx,sd h'.ob h'.small];cases t1:cI [42,42] (l.drop m)with
    |none=>rw[t1]at e3;dsimp only at e3 |-;injection e3 with e3;subst e3;rw[bV,bX,bx,bI];exact⟨m,rfl,hm,by rw[kN];rfl⟩
    |some r=>obtain⟨hn,rfl⟩:=gU bE t1;rw[t1]at e3;dsimp only at e3 |-;rw[bV,bX,bx,bH];obtain⟨res1,e1,rfl⟩:=ut e3;refine(cm.one (ih.level (k:=9) (h'.to hn) bu bu e1) λu μ'=> ?_).up;simp only[gF,bx,hJ,cK,nH,j9,Gf,ff]
 rw[bB c9]at hp;rw[show decide ((k:Int)=9)=false by simp;omega,bI];by_cases c4:k=4
 ·subst c4;rw[bC rfl]at hp;rw[show decide (((4:Nat):Int)=4)=true from rfl,bH,sd h.ob h.small];cases t1:cI [46,78,79,84,46] (l.drop n)with
  |some r=>obtain⟨hn,rfl⟩:=gU bE t1;rw[t1]at hp;dsimp only at hp |-;rw[bV,bX,bx,bH];obtain⟨res1,e1,rfl⟩:=ut hp;refine(cm.one (ih.level (k:=4) (h.to hn) bu bu e1) λt μ'=> ?_).up;simp only[gF,bx,hJ,cK,nH,j9,K5,ff]
  |none=>rw[t1]at hp;dsimp only at hp |-;rw[bV,bX,bx,bI];exact cm.same (ih.level (k:=5) h bu bu hp) hs
 rw[bB c4]at hp;rw[show decide ((k:Int)=4)=false by simp;omega,bI];by_cases c5:k=5
 ·subst c5;rw[bC rfl]at hp;rw[show decide (((5:Nat):Int)=5)=true from rfl,bH]
  obtain ⟨res1, e1, e2⟩ : ∃ res1, cJ f 6 (l.drop n) = some res1 /\ ((res1 = none /\ res = none) \/ ∃ a r, res1 = some (a, r) /\ (match ew 5 (opR r) 25 0 with
   |some k=>cY (cJ f 6 r.tail) λu r=>d9 (bin k a u) r
   |none=>d9 a r)=some res):=by
   rcases fU hp with⟨h1,h2⟩|⟨a,r,h1,h2⟩
   ·exact⟨none,h1,.inl ⟨rfl,h2⟩⟩
   ·exact⟨some (a,r),h1,.inr ⟨a,r,rfl,h2⟩⟩
  refine cm.callK (good1:=λt:T=>LV.cv t.cv) (ih.level (k:=6) h bu bu e1) (λh0=> ?_) (λ_=>rfl) λt m h3 hm=> ?_
  ·rcases e2 with⟨_,e⟩|⟨a,r,e,_⟩
   ·exact e
   ·rw[h0]at e;cases e
  ·rcases e2 with⟨e,_⟩|⟨a,r,e,e3⟩
   ·rw[h3]at e;cases e
   ·rw[h3]at e;injection e with e;injection e with e4 e5;subst e4 e5;have h':=h.to hm;rw[gF,bx,GP h'.ob,bV,dT,bx,M9,bV];unfold OK;have e5:((5:Nat):Int)=5:=rfl;rw[e5];cases ho:ew 5 (opR (l.drop m)) 25 0 with
    |none=>rw[ho]at e3;dsimp only at e3 |-;injection e3 with e3;subst e3;simp only[bQ];exact⟨m,rfl,hm,by rw[kN];rfl⟩
    |some j=>rw[ho]at e3;obtain⟨hn,ht⟩:=IE (lH ho);dsimp only at e3 |-;rw[ht]at e3;obtain⟨res1,e1,rfl⟩:=ut e3;simp only[bQ];rw[Bp h'.ob h'.small];refine(cm.one (ih.level (k:=6) (h'.to hn) bu bu e1) λu μ'=> ?_).up;simp only[gF,bx,hJ,cK,nH,j9,Gf,ff]
 rw[bB c5]at hp;rw[show decide ((k:Int)=5)=false by simp;omega,bI];exact cm.opt (aa0 ih h h1 bu hp) (λa μ'=>N4 _ _ _) (λμ'=>by rw[N5];rfl)
end
end Go.Abs
