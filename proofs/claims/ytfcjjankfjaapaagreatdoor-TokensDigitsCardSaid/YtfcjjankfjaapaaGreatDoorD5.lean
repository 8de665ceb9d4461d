/-
  The statement TokensDigitsCardSaid, proved; part 6 of 7 of its proof.
  Exponents, INTEGER constants, numbers.
  A number as a token.
  CHARACTER constants: what stands between quotes, plainly.
  The scanner's own list and the places that it keeps; CHARACTER constants.
  The arguments of this chapter's laws.
  Hollerith constants, operators, tokens.
  Operators, tokens.
  All tokens of a text.
  Digits and the numbers that they spell: plain facts.
  The scanner in free form, plainly; words between dots, as the reference looks for them.
  The reference's small functions.
  The reference's numbers.
  The reference's number is the program's.
-/
import Derived.Test.YtfcjjankfjaapaaGreatDoorD4
import Derived.Lib.ItoaLen
import Derived.Test.YtfcjjankfjaapaaGreatDoorD2
import Derived.Lib.IndexMore
import Derived.Lib.IndexBytes
import Derived.Lib.Replace
import Derived.Test.YtfcjjankfjaapaaGreatDoorD3
import Derived.Lib.AtoiAllCases
set_option linter.all false
set_option linter.unusedSectionVars false
set_option linter.unusedVariables false
set_option linter.unusedSimpArgs false
set_option maxRecDepth 100000
namespace Go.Abs
open Go Go.Proofs
section
variable {μ:Mu}{l i:Nat}{s:List UInt8}{fx:Bool}{r:List LV}
theorem BR: ∀i:Fin 256,IntKind.wrap .u8 ((BitVec.ofInt (IntKind.bits .u8) (i.val:Int) &&& ~~~BitVec.ofInt (IntKind.bits .u8) (32:Int)).toNat:Int)=(((UInt8.ofNat i.val) &&& 223).toNat:Int):=by decide
theorem MV (c:UInt8):IntKind.wrap .u8 ((BitVec.ofInt (IntKind.bits .u8) (c.toNat:Int) &&& ~~~BitVec.ofInt (IntKind.bits .u8) (32:Int)).toNat:Int)=((c &&& 223).toNat:Int):=by
 have:=BR ⟨c.toNat,c.toNat_lt⟩
 simpa using this
def bZ (fx:Bool)(s:List UInt8)(n:Nat):UInt8:=atC fx s n &&& 223
def cO (fx:Bool)(s:List UInt8)(n:Nat):List UInt8:=if atC fx s (atE fx s n)=45 then [45]else []
def expStart (fx:Bool)(s:List UInt8)(n:Nat):Nat:=if atC fx s (atE fx s n)=43∨atC fx s (atE fx s n)=45 then atE fx s (atE fx s n)else atE fx s n
def aV (fx:Bool)(s:List UInt8)(n:Nat):List UInt8:=cl fx ay s (expStart fx s n)
def aY (fx:Bool)(s:List UInt8)(n:Nat):UInt8×List UInt8×Nat×Bool:=
 if bZ fx s n=69∨bZ fx s n=68 then(bZ fx s n,cO fx s n++aV fx s n,runE fx ay s (expStart fx s n),!decide (aV fx s n=[]))else(0,[],n,false)
theorem Pg (h:Sc μ l i s fx r)(hs:s.length≤200000){n:Nat}(hn:n≤s.length):
  (ev E).call 191 [LV.cv (CV.ref l i 0),LV.int .i64 (n:Int)] μ=some (.ret (.ltup [LV.int .u8 ((aY fx s n).1.toNat:Int),LV.str (aY fx s n).2.1,LV.int .i64 ((aY fx s n).2.2.1:Nat),LV.bool (aY fx s n).2.2.2]) μ):=by
 have e69: ∀c:UInt8,decide ((c.toNat:Int)=69)=decide (c=69):=fun c=>bG (k:=69) (by omega)
 have e68: ∀c:UInt8,decide ((c.toNat:Int)=68)=decide (c=68):=fun c=>bG (k:=68) (by omega)
 have e43: ∀c:UInt8,decide ((c.toNat:Int)=43)=decide (c=43):=fun c=>bG (k:=43) (by omega)
 have e45: ∀c:UInt8,decide ((c.toNat:Int)=45)=decide (c=45):=fun c=>bG (k:=45) (by omega)
 have hle:=fU (fx:=fx) hn
 have hle2:=fU (fx:=fx) hle
 have hst:expStart fx s n≤s.length:=by unfold expStart;split<;>assumption
 have hr:=iF (fx:=fx) (s:=s) (p:=ay) (n:=expStart fx s n)
 have hG: ∀(sg:List UInt8),sg.length≤1→lz (ev E) l i ((bZ fx s n).toNat:Int) (expStart fx s n:Nat) sg μ=some (oS ((bZ fx s n).toNat:Int) (sg++aV fx s n) (runE fx ay s (expStart fx s n):Nat) (!decide (aV fx s n=[])) μ):=by
  intro sg hsg
  refine aO ?_
  rw[HQ,nk h (by omega) (fun c=>kH) hst]
  simp only[ad,ao,aa,aj,am,ah,ae,ak,aw,cond_true,cond_false,Bool.not_true,Bool.not_false,ar,au,aq]
  rw[bj (by omega)]
  rfl
 have hG5:yn (ev E) l i ((bZ fx s n).toNat:Int) (atE fx s n:Nat) μ=some (qM ((bZ fx s n).toNat:Int) (cO fx s n++aV fx s n) (runE fx ay s (expStart fx s n):Nat) (!decide (aV fx s n=[])) μ):=by
  refine aO ?_
  rw[KS,gF h (by omega) hle]
  simp only[ad,ao,aa,aj,am,ah,ae,ak,aw,cond_true,cond_false,Bool.not_true,Bool.not_false,ar,au,aq,e43,e45]
  by_cases h1:atC fx s (atE fx s n)=43
  ·have hx:expStart fx s n=atE fx s (atE fx s n):=by simp[expStart,h1]
   have hg:cO fx s n=[]:=by simp[cO,h1]
   have:=hG [] (by simp)
   rw[hx]at this
   simp only[h1,decide_true,ad,ao,aa,aj,am,ah,ae,ak,aw,cond_true,cond_false,Bool.not_true,Bool.not_false,ar,au,aq,hg]
   have h2:decide ((43:UInt8)=45)=false:=by decide
   rw[h2,cond_false,this,aa,lS,hx]
  ·by_cases h2:atC fx s (atE fx s n)=45
   ·have hx:expStart fx s n=atE fx s (atE fx s n):=by simp[expStart,h2]
    have hg:cO fx s n=[45]:=by simp[cO,h2]
    have:=hG [45] (by simp)
    rw[hx]at this
    have h3:decide ((45:UInt8)=43)=false:=by decide
    simp only[h2,h3,decide_true,ad,ao,aa,aj,am,ah,ae,ak,aw,cond_true,cond_false,Bool.not_true,Bool.not_false,ar,au,aq,hg]
    rw[this,aa,lS,hx]
   ·have hx:expStart fx s n=atE fx s n:=by simp[expStart,h1,h2]
    have hg:cO fx s n=[]:=by simp[cO,h2]
    have:=hG [] (by simp)
    rw[hx]at this
    simp only[h1,h2,decide_false,ad,ao,aa,aj,am,ah,ae,ak,aw,cond_true,cond_false,Bool.not_true,Bool.not_false,ar,au,aq,hg]
    rw[this,aa,lS,hx]
 refine aK ?_
 rw[PG,gF h (by omega) hn]
 simp only[ad,ao,aa,aj,am,ah,ae,ak,aw,cond_true,cond_false,Bool.not_true,Bool.not_false,ar,au,aq,MV]
 have hL:atC fx s n &&& 223=bZ fx s n:=rfl
 rw[hL]
 simp only[e69,e68]
 by_cases h1:bZ fx s n=69
 ·have:aY fx s n=(bZ fx s n,cO fx s n++aV fx s n,runE fx ay s (expStart fx s n),!decide (aV fx s n=[])):=by simp[aY,h1]
  rw[this,hG5]
  simp only[h1,decide_true,ad,ao,aa,aj,am,ah,ae,ak,aw,cond_true,cond_false,Bool.not_true,Bool.not_false,ar,au,aq]
  rw[←h1,sb]
 ·by_cases h2:bZ fx s n=68
  ·have:aY fx s n=(bZ fx s n,cO fx s n++aV fx s n,runE fx ay s (expStart fx s n),!decide (aV fx s n=[])):=by simp[aY,h2]
   rw[this,hG5]
   have h3:decide ((68:UInt8)=69)=false:=by decide
   simp only[h2,h3,decide_true,ad,ao,aa,aj,am,ah,ae,ak,aw,cond_true,cond_false,Bool.not_true,Bool.not_false,ar,au,aq]
   rw[←h2,sb]
  ·have:aY fx s n=(0,[],n,false):=by simp[aY,h1,h2]
   rw[this]
   simp only[h1,h2,decide_false,ad,ao,aa,aj,am,ah,ae,ak,aw,cond_true,cond_false,Bool.not_true,Bool.not_false,ar,au,aq]
   rfl
structure Tok where
 kind:Int
 type:Int
 text:List UInt8
 deriving DecidableEq
def Tok.cv (t:Tok):CV:=CV.agg [CV.int .i64 t.kind,CV.int .i64 t.type,CV.str t.text]
def gk (e:Int):CV:=CV.iface 162 (CV.agg [CV.int .i64 e])
theorem js {e:Int}:(ev E).call 170 [LV.int .i64 e] μ=some (.panic (gk e) μ):=aK (by rw[PK];rfl)
def aU (s:List UInt8):List UInt8:=if s=[]then [48]else s
def br (s:List UInt8):List UInt8:=Lib.trimLeftB s 48
def bn (s:List UInt8):List UInt8:=Lib.trimRightB s 48
theorem OG {t:List UInt8}:(ev E).call 65 [LV.str t,LV.bool true] μ=some (.ret (LV.str (aU (br t))) μ):=by
 refine aK ?_
 rw[Og,Fg (by decide)]
 simp only[ad,ao,aa,aj,am,ah,ae,ak,aw,cond_true,cond_false,Bool.not_true,Bool.not_false,ar,au,aq,aU,br]
 by_cases h:Lib.trimLeftB t 48=[]<;>simp[h]
theorem Iw {t:List UInt8}(ht:t.length≤1000000):(ev E).call 65 [LV.str t,LV.bool false] μ=some (.ret (LV.str (aU (bn t))) μ):=by
 refine aK ?_
 rw[Og,D0 (by decide) ht]
 simp only[ad,ao,aa,aj,am,ah,ae,ak,aw,cond_true,cond_false,Bool.not_true,Bool.not_false,ar,au,aq,aU,bn]
 by_cases h:Lib.trimRightB t 48=[]<;>simp[h]
theorem mH (t:List UInt8):(br t).length≤t.length:=by
 unfold br Lib.trimLeftB
 exact(List.dropWhile_suffix _).length_le
theorem qA (t:List UInt8):(bn t).length≤t.length:=by
 unfold bn Lib.trimRightB
 rw[List.length_reverse]
 exact Nat.le_trans (List.dropWhile_suffix _).length_le (by simp)
theorem Pj {a b:List UInt8}(ha:a.length≤1000000)(hb:b.length≤1000000):(ev E).call 193 [LV.str a,LV.str b] μ=some (.ret (LV.int .i64 ((br a).length+(bn b).length:Nat)) μ):=by
 refine aK ?_
 rw[Qi,Fg (by decide)]
 simp only[ad,ao,aa,aj,am,ah,ae,ak,aw,cond_true,cond_false,Bool.not_true,Bool.not_false,ar,au,aq]
 rw[D0 (by decide) hb]
 simp only[ad,ao,aa,aj,am,ah,ae,ak,aw,cond_true,cond_false,Bool.not_true,Bool.not_false,ar,au,aq]
 have h1:=mH a
 have h2:=qA b
 have e1:Lib.trimLeftB a 48=br a:=rfl
 have e2:Lib.trimRightB b 48=bn b:=rfl
 rw[e1,e2,bc (by omega) (by omega)]
 simp
def cw (s:List UInt8):Int:=match Lib.atoiAll s with| .ok v=>v| .range=>Lib.atoiSat s|_=>0
def jY (s:List UInt8):Bool:=match Lib.atoiAll s with| .ok _=>true|_=>false
def xI (s:List UInt8):CV:=match jY s with|true=> .v .nilIface|false=> .iface 146 .undef
theorem lM (s:List UInt8):uf 146 s= .ltup [LV.int .i64 (cw s),.cv (xI s)]:=by
 unfold uf xI cw jY
 cases Lib.atoiAll s<;>rfl
theorem EM (s:List UInt8):xF (.cv (xI s))=some (jY s):=by
 unfold xI
 cases jY s<;>rfl
theorem ii (s:List UInt8): -9223372036854775808≤cw s∧cw s≤9223372036854775807:=by
 unfold cw
 split
 ·rename_i v h
  unfold Lib.atoiAll at h
  cases s with
  |nil=>cases h
  |cons c r=>
   simp only at h
   split at h
   ·cases h
   ·cases h
   ·rename_i u hu
    split at h
    ·cases h
    ·rename_i h1
     split at h
     ·cases h
     ·rename_i h2
      injection h with h
      subst h
      split<;>omega
 ·unfold Lib.atoiSat
  split<;>omega
 ·omega
theorem iQ {c:CV}:de (.cv c)=some c:=rfl
def OA (μ:Mu):Except Int Tok→Out
 | .ok t=> .ret (.cv t.cv) μ
 | .error e=> .panic (gk e) μ
def cx (d:List UInt8):Except Int Tok:=if 10<d.length∨jY d=false∨2147483647<cw d then .error 28 else .ok ⟨1,0,Lib.itoa (cw d)⟩
theorem Bl {n:Nat}{e:Int}:below n (gk e)=true:=rfl
theorem OV {d:List UInt8}(hd:d.length≤1000000):(ev E).call 192 [LV.str d] μ=some (OA μ (cx d)):=by
 refine aK ?_
 rw[PL,t7 hd,lM]
 have hr:=ii d
 simp only[ad,ao,aa,aj,am,ah,ae,ak,aw,cond_true,cond_false,Bool.not_true,Bool.not_false,ar,au,aq,iQ,js,dK,Bl]
 by_cases h1:10<d.length
 ·have e1:decide ((10:Int)<(d.length:Int))=true:=by simp;omega
  have e2:cx d= .error 28:=by simp[cx,h1]
  rw[e1,e2,cond_true]
  rfl
 ·have e1:decide ((10:Int)<(d.length:Int))=false:=by simp;omega
  rw[e1,cond_false,EM,aa]
  cases h2:jY d with
  |false=>
   have e2:cx d= .error 28:=by simp[cx,h2]
   rw[e2];rfl
  |true=>
   simp only[ad,ao,aa,aj,am,ah,ae,ak,aw,cond_true,cond_false,Bool.not_true,Bool.not_false,ar,au,aq]
   by_cases h3:2147483647<cw d
   ·have e2:cx d= .error 28:=by simp[cx,h3]
    have e3:decide (2147483647<cw d)=true:=by simp[h3]
    rw[e2,e3];rfl
   ·have e2:cx d= .ok ⟨1,0,Lib.itoa (cw d)⟩:=by simp[cx,h1,h2,h3]
    have e3:decide (2147483647<cw d)=false:=by simp[h3]
    rw[e2,e3,cond_false,Gd hr.1 hr.2]
    rfl
end
end Go.Abs
set_option linter.unusedVariables false
set_option linter.unusedSimpArgs false
set_option maxRecDepth 100000
namespace Go.Abs
open Go Go.Proofs
def qf (μ:Mu):Except Int (Tok×Nat)→Out
 | .ok q=> .ret (.ltup [.cv q.1.cv,LV.int .i64 (q.2:Int)]) μ
 | .error e=> .panic (gk e) μ
def eZ (whole part:List UInt8):List UInt8:=aU (br whole)++[46]++aU (bn part)
def fi (digits:List UInt8)(ok:Bool):List UInt8:=if ok then Lib.itoa (cw digits)else [48]
def dT (text pow:List UInt8)(letter:UInt8)(ok:Bool):Tok:=
 if letter=68∧ok=true then⟨1,2,text++[68]++pow⟩else if pow=[48]then⟨1,1,text⟩else⟨1,1,text++([69]++pow)⟩
def nM (whole part digits:List UInt8)(ok:Bool):Bool:=decide (30<(br whole).length+(bn part).length)||(decide (3<(Lib.trimPrefix digits [45]).length)&&ok)
def e7 (whole part digits:List UInt8)(letter:UInt8)(ok:Bool)(e:Nat):Except Int (Tok×Nat):=
 if nM whole part digits ok then .error 7 else .ok (dT (eZ whole part) (fi digits ok) letter ok,e)
def bT (fx:Bool)(s:List UInt8)(n:Nat):List UInt8:=cl fx ay s n
def cS (fx:Bool)(s:List UInt8)(n:Nat):Bool:=decide (atC fx s (runE fx ay s n)=46)&&(!(ck fx s (runE fx ay s n)).2.2||decide (bT fx s n=[]))
def eC (fx:Bool)(s:List UInt8)(n:Nat):List UInt8:=if cS fx s n then cl fx ay s (atE fx s (runE fx ay s n))else []
def numEnd (fx:Bool)(s:List UInt8)(n:Nat):Nat:=if cS fx s n then runE fx ay s (atE fx s (runE fx ay s n))else runE fx ay s n
def db (fx:Bool)(s:List UInt8)(n:Nat):Except Int (Tok×Nat):=
 let q:=aY fx s (numEnd fx s n)
 if !cS fx s n&& !q.2.2.2 then(match cx (bT fx s n)with| .ok t=> .ok (t,numEnd fx s n)| .error e=> .error e)
 else e7 (bT fx s n) (eC fx s n) q.2.1 q.1 q.2.2.2 (if q.2.2.2 then q.2.2.1 else numEnd fx s n)
def stT (μ:Mu)(xr:Int→Int→Int→List UInt8→Mu→St)(xp:CV→Mu→St):Except Int (Tok×Nat)→St
 | .ok q=>xr (q.2:Int) q.1.kind q.1.type q.1.text μ
 | .error e=>xp (gk e) μ
section
variable {μ:Mu}{l i:Nat}{s:List UInt8}{fx:Bool}{r:List LV}
theorem Py {e:Nat}{text pow:List UInt8}{a b:Int}{c:List UInt8}(h:text.length+pow.length≤1000000):
  wi (ev E) (e:Int) text pow a b c μ=some (lm (e:Int) 1 1 (if pow=[48]then text else text++([69]++pow)) μ):=by
 refine aO ?_
 rw[Hq]
 by_cases hp:pow=[48]
 ·have:decide (pow=[48])=true:=by simp[hp]
  rw[this,if_pos hp];rfl
 ·have:decide (pow=[48])=false:=by simp[hp]
  rw[this,if_neg hp]
  simp only[ad,ao,aa,aj,am,ah,ae,ak,aw,cond_true,cond_false,Bool.not_true,Bool.not_false,ar,au,aq]
  rw[bj (by simp;omega),bj (by simp;omega)]
  simp only[ad,ao,aa,aj,am,ah,ae,ak,aw,cond_true,cond_false,Bool.not_true,Bool.not_false,ar,au,aq]
theorem L1 {e:Nat}{letter:UInt8}{ok:Bool}{text pow:List UInt8}{a b:Int}{c:List UInt8}(h:text.length+pow.length≤1000000):
  vU (ev E) (e:Int) (letter.toNat:Int) ok text pow a b c μ=some (lk (e:Int) (dT text pow letter ok).kind (dT text pow letter ok).type (dT text pow letter ok).text μ):=by
 have e68:decide ((letter.toNat:Int)=68)=decide (letter=68):=bG (k:=68) (by omega)
 refine aO ?_
 rw[Hc,e68,Py h,aa,AB]
 by_cases hl:letter=68
 ·cases ok with
  |true=>
   have:dT text pow letter true=⟨1,2,text++[68]++pow⟩:=by simp[dT,hl]
   rw[this]
   simp only[hl,decide_true,ad,ao,aa,aj,am,ah,ae,ak,aw,cond_true,cond_false,Bool.not_true,Bool.not_false,ar,au,aq]
   rw[bj (by simp;omega),bj (by simp;omega)]
   simp only[ad,ao,aa,aj,am,ah,ae,ak,aw,cond_true,cond_false,Bool.not_true,Bool.not_false,ar,au,aq]
  |false=>
   simp only[hl,decide_true,ad,ao,aa,aj,am,ah,ae,ak,aw,cond_true,cond_false,Bool.not_true,Bool.not_false,ar,au,aq]
   by_cases hp:pow=[48]<;>simp[dT,hp]
 ·simp only[hl,decide_false,ad,ao,aa,aj,am,ah,ae,ak,aw,cond_true,cond_false,Bool.not_true,Bool.not_false,ar,au,aq]
  by_cases hp:pow=[48]<;>simp[dT,hp,hl]
theorem eU (t:List UInt8):(aU t).length≤t.length+1:=by
 unfold aU
 split<;>simp
theorem Pw {e:Nat}{letter:UInt8}{ok:Bool}{whole part digits:List UInt8}{a b:Int}{c:List UInt8}(h1:whole.length≤200000)(h2:part.length≤200000)(h3:digits.length≤200001)(h4:(fi digits ok).length≤100):
  nn (ev E) (e:Int) whole part (letter.toNat:Int) digits ok a b c μ=some (oA (e:Int) (dT (eZ whole part) (fi digits ok) letter ok).kind (dT (eZ whole part) (fi digits ok) letter ok).type (dT (eZ whole part) (fi digits ok) letter ok).text μ):=by
 refine aO ?_
 have k1:=mH whole
 have k2:=qA part
 have k3:=eU (br whole)
 have k4:=eU (bn part)
 rw[Js,OG]
 simp only[ad,ao,aa,aj,am,ah,ae,ak,aw,cond_true,cond_false,Bool.not_true,Bool.not_false,ar,au,aq]
 rw[bj (by simp;omega)]
 simp only[ad,ao,aa,aj,am,ah,ae,ak,aw,cond_true,cond_false,Bool.not_true,Bool.not_false,ar,au,aq]
 rw[Iw (by omega)]
 simp only[ad,ao,aa,aj,am,ah,ae,ak,aw,cond_true,cond_false,Bool.not_true,Bool.not_false,ar,au,aq]
 rw[bj (by simp;omega)]
 have ht:aU (br whole)++[46]++aU (bn part)=eZ whole part:=rfl
 have hl:(eZ whole part).length≤400003:=by rw[←ht];simp;omega
 cases ok with
 |true=>
  have hr:=ii digits
  simp only[ad,ao,aa,aj,am,ah,ae,ak,aw,cond_true,cond_false,Bool.not_true,Bool.not_false,ar,au,aq,t7 (show digits.length≤1000000 by omega),lM,iQ,Gd hr.1 hr.2]
  have hp:Lib.itoa (cw digits)=fi digits true:=rfl
  rw[hp,ht,L1 (by omega),aa,qx]
 |false=>
  simp only[ad,ao,aa,aj,am,ah,ae,ak,aw,cond_true,cond_false,Bool.not_true,Bool.not_false,ar,au,aq]
  have hp:([48]:List UInt8)=fi digits false:=rfl
  rw[hp,ht,L1 (by omega),aa,qx]
theorem vG (a b:List UInt8):(Lib.trimPrefix a b).length≤a.length:=Lib.trimPrefix_le a b
theorem Mn {e:Nat}{letter:UInt8}{ok:Bool}{whole part digits:List UInt8}{a b:Int}{c:List UInt8}(h1:whole.length≤200000)(h2:part.length≤200000)(h3:digits.length≤200001)(h4:(fi digits ok).length≤100):
  wg (ev E) (e:Int) whole part (letter.toNat:Int) digits ok a b c μ=some (stT μ pf g7 (e7 whole part digits letter ok e)):=by
 refine aO ?_
 rw[Iv,Pj (by omega) (by omega)]
 simp only[ad,ao,aa,aj,am,ah,ae,ak,aw,cond_true,cond_false,Bool.not_true,Bool.not_false,ar,au,aq,js,dK,OU]
 have k0:=vG digits [45]
 have e30:decide ((30:Int)<(((br whole).length+(bn part).length:Nat):Int))=decide (30<(br whole).length+(bn part).length):=by simp;omega
 have e3:decide ((3:Int)<((Lib.trimPrefix digits [45]).length:Int))=decide (3<(Lib.trimPrefix digits [45]).length):=by simp;omega
 rw[e30,e3,Pw h1 h2 h3 h4,aa,yN]
 unfold e7 nM
 cases decide (30<(br whole).length+(bn part).length)<;>cases decide (3<(Lib.trimPrefix digits [45]).length)<;>cases ok<;>rfl
theorem Qa {e x:Nat}{letter:UInt8}{ok:Bool}{whole part digits:List UInt8}{a b:Int}{c:List UInt8}(h1:whole.length≤200000)(h2:part.length≤200000)(h3:digits.length≤200001)(h4:(fi digits ok).length≤100):
  wh (ev E) (e:Int) whole part (letter.toNat:Int) digits (x:Int) ok a b c μ=some (stT μ lu lf (e7 whole part digits letter ok (if ok then x else e))):=by
 refine aO ?_
 rw[JB]
 cases ok with
 |true=>
  rw[cond_true,Mn h1 h2 h3 h4,aa]
  simp only[if_true]
  cases e7 whole part digits letter true x with
  |ok q=>exact qX _ _ _ _ _ _
  |error e=>exact qI _ _ _
 |false=>
  rw[cond_false,Mn h1 h2 h3 h4,aa]
  simp only[Bool.false_eq_true,if_false]
  cases e7 whole part digits letter false e with
  |ok q=>exact qX _ _ _ _ _ _
  |error e=>exact qI _ _ _
theorem dG {β:Type}{t:Tok}{k:Int→Int→List UInt8→Option β}:fM (.cv t.cv) k=k t.kind t.type t.text:=rfl
theorem QF (h:Sc μ l i s fx r)(hs:s.length≤200000){whole part:List UInt8}{dot:Bool}{n:Nat}(hn:n≤s.length)(h1:whole.length≤200000)(h2:part.length≤200000)(h3:(aY fx s n).2.1.length≤200001)(h4:(fi (aY fx s n).2.1 (aY fx s n).2.2.2).length≤100):
  ny (ev E) l i (n:Int) whole part dot 0 0 [] μ=some (stT μ iU gK (if !dot&& !(aY fx s n).2.2.2 then(match cx whole with| .ok t=> .ok (t,n)| .error e=> .error e)else e7 whole part (aY fx s n).2.1 (aY fx s n).1 (aY fx s n).2.2.2 (if(aY fx s n).2.2.2 then(aY fx s n).2.2.1 else n))):=by
 refine aO ?_
 rw[JX,Pg h hs hn]
 simp only[ad,ao,aa,aj,am,ah,ae,ak,aw,cond_true,cond_false,Bool.not_true,Bool.not_false,ar,au,aq]
 rw[Qa h1 h2 h3 h4,aa,OV (by omega)]
 have hreal:kS (ev E) cC [] [(4,0),(5,0)] (stT μ lu lf (e7 whole part (aY fx s n).2.1 (aY fx s n).1 (aY fx s n).2.2.2 (if(aY fx s n).2.2.2 then(aY fx s n).2.2.1 else n)))=
   some (stT μ iU gK (e7 whole part (aY fx s n).2.1 (aY fx s n).1 (aY fx s n).2.2.2 (if(aY fx s n).2.2.2 then(aY fx s n).2.2.1 else n))):=by
  cases e7 whole part (aY fx s n).2.1 (aY fx s n).1 (aY fx s n).2.2.2 (if(aY fx s n).2.2.2 then(aY fx s n).2.2.1 else n)with
  |ok q=>exact AN _ _ _ _ _ _
  |error e=>exact zy _ _ _
 rw[hreal]
 cases dot with
 |true=>rfl
 |false=>
  cases (aY fx s n).2.2.2 with
  |true=>rfl
  |false=>
   simp only[ad,ao,aa,aj,am,ah,ae,ak,aw,cond_true,cond_false,Bool.not_true,Bool.not_false,ar,au,aq,Bool.and_self,if_true]
   cases cx whole with
   |ok t=>simp only[OA,ad,dG];rfl
   |error e=>rfl
theorem I5 (digits:List UInt8)(ok:Bool):(fi digits ok).length≤100:=by
 have hr:=ii digits
 have:=Lib.itoa_length_le _ hr.1 hr.2
 unfold fi
 split
 ·omega
 ·simp
theorem Ju (h:Sc μ l i s fx r)(hs:s.length≤200000){n:Nat}(hn:n≤s.length):
  (ev E).call 171 [LV.cv (CV.ref l i 0),LV.int .i64 (n:Int)] μ=some (qf μ (db fx s n)):=by
 have e46: ∀c:UInt8,decide ((c.toNat:Int)=46)=decide (c=46):=fun c=>bG (k:=46) (by omega)
 have hle:=gX (fx:=fx) (p:=ay) hn
 have hle2:=fU (fx:=fx) hle
 have hle3:=gX (fx:=fx) (p:=ay) hle2
 have hr1:=iF (fx:=fx) (s:=s) (p:=ay) (n:=n)
 have hr2:=iF (fx:=fx) (s:=s) (p:=ay) (n:=atE fx s (runE fx ay s n))
 have hx: ∀m,(aY fx s m).2.1.length≤200001:=by
  intro m
  unfold aY
  split
  ·have:=iF (fx:=fx) (s:=s) (p:=ay) (n:=expStart fx s m)
   simp only[List.length_append,cO,aV]
   split<;>simp<;>omega
  ·simp
 have fin: ∀q:Except Int (Tok×Nat),kB (ev E) 171 cC [] (stT μ iU gK q)=some (qf μ q):=by
  intro q
  cases q with
  |ok q=>exact AT _ _ _ _ _ _
  |error e=>
   simp only[stT]
   rw[Ce]
   rfl
 have hend:numEnd fx s n≤s.length:=by unfold numEnd;split<;>assumption
 have key: ∀(dot:Bool),cS fx s n=dot→(opt (ny (ev E) l i (numEnd fx s n:Nat) (bT fx s n) (eC fx s n) dot 0 0 [] μ) (kB (ev E) 171 cC []))=some (qf μ (db fx s n)):=by
  intro dot hd
  rw[QF h hs hend (by unfold bT;omega) (by unfold eC;split<;>first|omega|simp) (hx _) (I5 _ _),aa,fin]
  unfold db
  rw[hd]
 refine aK ?_
 rw[PB,nk h (by omega) (fun c=>kH) hn]
 simp only[ad,ao,aa,aj,am,ah,ae,ak,aw,cond_true,cond_false,Bool.not_true,Bool.not_false,ar,au,aq]
 rw[gF h (by omega) hle]
 simp only[ad,ao,aa,aj,am,ah,ae,ak,aw,cond_true,cond_false,Bool.not_true,Bool.not_false,ar,au,aq,e46]
 have hw:cl fx ay s n=bT fx s n:=rfl
 by_cases hc:atC fx s (runE fx ay s n)=46
 ·have hc':decide (atC fx s (runE fx ay s n)=46)=true:=by simp[hc]
  rw[hc',cond_true,GY h hs hle]
  simp only[ad,ao,aa,aj,am,ah,ae,ak,aw,cond_true,cond_false,Bool.not_true,Bool.not_false,ar,au,aq]
  rw[nk h (by omega) (fun c=>kH) hle2]
  simp only[ad,ao,aa,aj,am,ah,ae,ak,aw,cond_true,cond_false,Bool.not_true,Bool.not_false,ar,au,aq]
  cases hdo:(ck fx s (runE fx ay s n)).2.2 with
  |false=>
   have hd:cS fx s n=true:=by simp[cS,hc,hdo]
   have:=key true hd
   simp only[numEnd,eC,hd,if_true]at this
   simp only[ad,ao,aa,aj,am,ah,ae,ak,aw,cond_true,cond_false,Bool.not_true,Bool.not_false,ar,au,aq,hw]
   exact this
  |true=>
   simp only[ad,ao,aa,aj,am,ah,ae,ak,aw,cond_true,cond_false,Bool.not_true,Bool.not_false,ar,au,aq,hw]
   by_cases hz:bT fx s n=[]
   ·have hd:cS fx s n=true:=by simp[cS,hc,hz]
    have:=key true hd
    simp only[numEnd,eC,hd,if_true]at this
    have h5:decide (bT fx s n=[])=true:=by simp[hz]
    rw[h5,cond_true]
    exact this
   ·have hd:cS fx s n=false:=by simp[cS,hdo,hz]
    have:=key false hd
    simp only[numEnd,eC,hd,Bool.false_eq_true,if_false]at this
    have h5:decide (bT fx s n=[])=false:=by simp[hz]
    rw[h5,cond_false]
    exact this
 ·have hc':decide (atC fx s (runE fx ay s n)=46)=false:=by simp[hc]
  have hd:cS fx s n=false:=by simp[cS,hc]
  have:=key false hd
  simp only[numEnd,eC,hd,Bool.false_eq_true,if_false]at this
  rw[hc',cond_false,hw]
  exact this
end
end Go.Abs
set_option linter.unusedVariables false
set_option linter.unusedSimpArgs false
namespace Go.Abs
open Go
def ct (q:UInt8):List UInt8→Option (List UInt8×Nat)
 |[]=>none
 |[c]=>if c=q then some ([],1)else none
 |c::d::r=>if c=q then(if d=q then(ct q r).map (fun x=>(q::x.1,x.2+2))else some ([],1))else(ct q (d::r)).map fun x=>(c::x.1,x.2+1)
theorem o2 {q c:UInt8}(h:c≠q)(r:List UInt8):ct q (c::r)=(ct q r).map fun x=>(c::x.1,x.2+1):=by
 cases r with
 |nil=>simp[ct,h]
 |cons d r=>rw[ct,if_neg h]
theorem p9 {q:UInt8}(r:List UInt8):ct q (q::q::r)=(ct q r).map fun x=>(q::x.1,x.2+2):=by
 rw[ct,if_pos rfl,if_pos rfl]
theorem ky {q:UInt8}{r:List UInt8}(h: ∀d t,r=d::t→d≠q):ct q (q::r)=some ([],1):=by
 cases r with
 |nil=>simp[ct]
 |cons d r=>rw[ct,if_pos rfl,if_neg (h d r rfl)]
theorem wZ {q:UInt8}: ∀(a l:List UInt8),(∀b∈a,b≠q)→ct q (a++l)=(ct q l).map fun x=>(a++x.1,a.length+x.2)
 |[],l,_=>by
  simp only[List.nil_append,List.length_nil,Nat.zero_add]
  cases ct q l<;>rfl
 |c::a,l,h=>by
  rw[List.cons_append,o2 (h c List.mem_cons_self),wZ a l (fun b hb=>h b (List.mem_cons_of_mem _ hb))]
  cases ct q l with
  |none=>rfl
  |some x=>simp only[Option.map_some,List.cons_append,List.length_cons];congr 2;omega
theorem vv {q:UInt8}: ∀(l:List UInt8),(∀b∈l,b≠q)→ct q l=none
 |[],_=>rfl
 |c::r,h=>by rw[o2 (h c List.mem_cons_self),vv r (fun b hb=>h b (List.mem_cons_of_mem _ hb))];rfl
theorem mG {q:UInt8}: ∀(n:Nat) (l:List UInt8),l.length≤n→ ∀t k,ct q l=some (t,k)→1≤k∧k≤l.length∧t.length+1≤k
 |0,l,hn,t,k,h=>by
  have:l=[]:=List.eq_nil_of_length_eq_zero (by omega)
  subst this
  cases h
 |n+1,[],hn,t,k,h=>by cases h
 |n+1,c::r,hn,t,k,h=>by
  simp only[List.length_cons]at hn ⊢
  by_cases hc:c=q
  ·subst hc
   cases r with
   |nil=>
    rw[ky (by intro d t h;cases h)]at h
    cases h
    simp
   |cons d r=>
    by_cases hd:d=c
    ·subst hd
     rw[p9]at h
     cases hq:ct d r with
     |none=>rw[hq]at h;cases h
     |some x=>
      rw[hq]at h
      cases h
      simp only[List.length_cons]at hn ⊢
      have:=mG n r (by omega) x.1 x.2 hq
      omega
    ·rw[ky (by intro e t h;cases h;exact hd)]at h
     cases h
     simp
  ·rw[o2 hc]at h
   cases hq:ct q r with
   |none=>rw[hq]at h;cases h
   |some x=>
    rw[hq]at h
    cases h
    have:=mG n r (by omega) x.1 x.2 hq
    simp only[List.length_cons]
    omega
theorem jW (l:List UInt8)(q:UInt8):(Lib.index l [q]= -1∧ ∀b∈l,b≠q)∨(∃a r,l=a++q::r∧(∀b∈a,b≠q)∧Lib.index l [q]=(a.length:Int)):=by
 induction l with
 |nil=>exact Or.inl ⟨rfl,by simp⟩
 |cons c l ih=>
  by_cases hc:c=q
  ·subst hc
   refine Or.inr ⟨[],l,rfl,by simp,?_⟩
   simp[Lib.index,List.isPrefixOf]
  ·have hp:([q].isPrefixOf (c::l))=false:=by
    have:(q == c)=false:=by simpa using fun h:q=c=>hc h.symm
    simp[List.isPrefixOf,this]
   rcases ih with⟨h1,h2⟩|⟨a,r,h1,h2,h3⟩
   ·refine Or.inl ⟨?_,?_⟩
    ·simp only[Lib.index,hp,h1];rfl
    ·intro b hb
     rcases List.mem_cons.1 hb with rfl|hb
     ·exact hc
     ·exact h2 b hb
   ·refine Or.inr ⟨c::a,r,by rw[h1];rfl,?_,?_⟩
    ·intro b hb
     rcases List.mem_cons.1 hb with rfl|hb
     ·exact hc
     ·exact h2 b hb
    ·have hne:(Lib.index l [q] == -1)=false:=by rw[h3];simp;try omega
     simp only[Lib.index,hp,hne,h3]
     simp
def dbl:List UInt8→List UInt8
 |[]=>[]
 |c::r=>if c=39 then 39::39::dbl r else c::dbl r
theorem rt: ∀(a l:List UInt8),(∀b∈a,b≠39)→dbl (a++l)=a++dbl l
 |[],l,_=>rfl
 |c::a,l,h=>by
  rw[List.cons_append,dbl,if_neg (h c List.mem_cons_self),rt a l (fun b hb=>h b (List.mem_cons_of_mem _ hb))]
  rfl
theorem rC: ∀(l:List UInt8),(dbl l).length≤2*l.length
 |[]=>Nat.le_refl _
 |c::r=>by
  have:=rC r
  unfold dbl
  split<;>simp only[List.length_cons]<;>omega
theorem qy: ∀(k:Nat) (l:List UInt8),Lib.count l [39]≤k→Lib.replaceK [39] [39,39] k l=dbl l
 |0,l,h=>by
  rcases jW l 39 with⟨h1,h2⟩|⟨a,r,h1,h2,h3⟩
  ·have:=rt l [] h2
   simp only[List.append_nil,dbl]at this
   rw[this];rfl
  ·exfalso
   have:=Lib.count_hit (sub:=[39]) (by simp) h3
   omega
 |k+1,l,h=>by
  rcases jW l 39 with⟨h1,h2⟩|⟨a,r,h1,h2,h3⟩
  ·have:=rt l [] h2
   simp only[List.append_nil,dbl]at this
   rw[this,Lib.replaceK,h1];rfl
  ·have hc:=Lib.count_hit (sub:=[39]) (by simp) h3
   rw[Lib.replaceK_hit _ _ _ _ _ h3]
   have hd:l.drop (a.length+([39]:List UInt8).length)=r:=by
    rw[h1,List.length_singleton,←List.drop_drop,List.drop_left' rfl];rfl
   have ht:l.take a.length=a:=by rw[h1,List.take_left' rfl]
   have hc':Lib.count l [39]=1+Lib.count r [39]:=by rw[hc,hd]
   rw[hd,ht,qy k r (by omega),h1,rt a _ h2,dbl,if_pos rfl]
   simp
theorem vT (l:List UInt8):Lib.replaceAll l [39] [39,39]=dbl l:=by
 unfold Lib.replaceAll Lib.replace Lib.replaceNum
 rw[if_neg (by decide),if_pos (Or.inl (by decide))]
 exact qy _ _ (Nat.le_refl _)
end Go.Abs
set_option linter.unusedVariables false
set_option linter.unusedSimpArgs false
set_option maxRecDepth 100000
namespace Go.Abs
open Go Go.Proofs
def EA:LV:= .cv (.v (.slice none 0 0))
def aQ (l:List Tok):List CV:=l.map Tok.cv
def bu (l:List Nat):List CV:=l.map fun(n:Nat)=>CV.int .i64 (n:Int)
def tL (l:List Tok):LV:=if l=[]then EA else .osl (aQ l)
def kL (l:List Nat):LV:=if l=[]then EA else .osl (bu l)
def scO (s:List UInt8)(fx:Bool)(out:List Tok)(kept:List Nat):Ob:= .cells [LV.str s,LV.bool fx,tL out,kL kept]
def scM (b:Mu)(s:List UInt8)(fx:Bool)(out:List Tok)(kept:List Nat):Mu:=b++[[scO s fx out kept]]
theorem nu (b:Mu)(o:Ob):aZ (b++[[o]]) b.length 0=o:=by simp[aZ]
theorem nr (b:Mu)(o o':Ob):bM (b++[[o]]) b.length 0 o'=b++[[o']]:=by simp[bM]
section
variable {b:Mu}{s:List UInt8}{fx:Bool}{out:List Tok}{kept:List Nat}
theorem j2:Sc (scM b s fx out kept) b.length 0 s fx [tL out,kL kept]:=nu _ _
theorem Jd:fm (tL out)=some (aQ out):=by unfold tL;split<;>rename_i h<;>(try subst h)<;>rfl
theorem IA:fm (kL kept)=some (bu kept):=by unfold kL;split<;>rename_i h<;>(try subst h)<;>rfl
theorem EY:cM (strip (tL out))=some (aQ out):=by unfold tL;split<;>rename_i h<;>(try subst h)<;>rfl
theorem Qg {a b c d:LV}:kg E.P 38 (.cells [a,b,c,d]) 3=some (d,.cells [a,b,c,strip d]):=by kernel_rfl
theorem OW {a b c d:LV}{l:List CV}:bE E.P 38 (.cells [a,b,c,d]) 3 (LV.osl l)=some (.cells [a,b,c,.osl l]):=by kernel_rfl
theorem PI {a b c d:LV}:kg E.P 32 (.cells [a,b,c,d]) 2=some (c,.cells [a,b,strip c,d]):=by kernel_rfl
theorem O7 {a b c d:LV}{l:List CV}:bE E.P 32 (.cells [a,b,c,d]) 2 (LV.osl l)=some (.cells [a,b,.osl l,d]):=by kernel_rfl
theorem Mb {a b c d:LV}:bv E.P 32 (.cells [a,b,c,d]) 2=some (strip c):=by kernel_rfl
theorem pn: ∀(l:List Nat),gi 1 (bu l)=true
 |[]=>rfl
 |a::l=>by
  have e:bu (a::l)=CV.int .i64 (a:Int)::bu l:=rfl
  rw[e]
  simp only[gi]
  have:eX 1 (CV.int .i64 (a:Int))=true:=rfl
  rw[this]
  exact pn l
theorem oL: ∀(l:List Tok),gi 3 (aQ l)=true
 |[]=>rfl
 |a::l=>by
  have e:aQ (a::l)=a.cv::aQ l:=rfl
  rw[e]
  simp only[gi]
  have:eX 3 a.cv=true:=rfl
  rw[this]
  exact oL l
theorem m9 {n:Nat}: ∀(l:List Nat),bO n (bu l)=true
 |[]=>rfl
 |a::l=>by
  have e:bu (a::l)=CV.int .i64 (a:Int)::bu l:=rfl
  rw[e]
  simp only[bO]
  have:below n (CV.int .i64 (a:Int))=true:=rfl
  rw[this]
  exact m9 l
theorem na {n:Nat}: ∀(l:List Tok),bO n (aQ l)=true
 |[]=>rfl
 |a::l=>by
  have e:aQ (a::l)=a.cv::aQ l:=rfl
  rw[e]
  simp only[bO]
  have:below n a.cv=true:=rfl
  rw[this]
  exact na l
theorem Ew {a c:List Nat}(h:a.length+c.length≤1000000):gg 1 (bu a) (bu c)=true:=by
 unfold gg
 rw[pn,pn]
 simp[a6,bu]
 omega
theorem vp {a c:List Tok}(h:a.length+c.length≤1000000):gg 3 (aQ a) (aQ c)=true:=by
 unfold gg
 rw[oL,oL]
 simp[a6,aQ]
 omega
theorem OZ {n:Nat}:LV.osl (bu kept++[CV.int .i64 (n:Int)])=kL (kept++[n]):=by
 unfold kL
 rw[if_neg (by simp)]
 simp[bu]
theorem OC {t:Tok}:LV.osl (aQ out++[t.cv])=tL (out++[t]):=by
 unfold tL
 rw[if_neg (by simp)]
 simp[aQ]
theorem NB (hs:s.length≤200000): ∀(k a e:Nat) (kept:List Nat),a+k=e→e≤300000→kept.length+k≤600000→
  zH (ev E) b.length 0 (e:Int) (a:Int) (scM b s fx out kept)=some (rh (scM b s fx out (kept++List.range' a k))):=by
 intro k
 induction k with
 |zero=>
  intro a e kept hk he hq
  refine bb ?_
  rw[yq]
  have h1:decide ((a:Int)<(e:Int))=false:=by simp;omega
  rw[h1,cond_false]
  simp
 |succ k ih=>
  intro a e kept hk he hq
  refine bb ?_
  rw[yq]
  have h1:decide ((a:Int)<(e:Int))=true:=by simp;omega
  rw[h1,cond_true]
  unfold scM
  rw[nu]
  unfold scO
  rw[Qg,aa,IA,aa]
  have ha:[CV.int .i64 (a:Int)]=bu [a]:=rfl
  rw[ha,Ew (by simp;omega),aw]
  have hb:bO (b.length+1) (bu kept++bu [a])=true:=by
   have:bu kept++bu [a]=bu (kept++[a]):=by simp[bu]
   rw[this];exact m9 _
  rw[hb,aw,nr,nu,OW,aa,nr,bc (by omega) (by omega)]
  have:=ih (a+1) e (kept++[a]) (by omega) he (by simp;omega)
  unfold scM scO at this
  rw[←ha,OZ]
  have e1:((a+1:Nat):Int)=(a:Int)+1:=by omega
  rw[←e1,this]
  simp[List.range'_succ]
theorem HB (hs:s.length≤200000){a e:Nat}(h:a≤e)(he:e≤300000)(hk:kept.length+(e-a)≤600000):
  (ev E).call 189 [LV.cv (CV.ref b.length 0 0),LV.int .i64 (a:Int),LV.int .i64 (e:Int)] (scM b s fx out kept)=some (.ret (.ltup []) (scM b s fx out (kept++List.range' a (e-a)))):=by
 refine aK ?_
 rw[Qh,NB hs (e-a) a e kept (by omega) he hk,aa,BH]
def fY (t:List UInt8):List UInt8:=[39]++dbl t++[39]
theorem Mv {t:List UInt8}{μ:Mu}(h:t.length≤200000):(ev E).call 86 [LV.str t] μ=some (.ret (.cv (Tok.cv ⟨1,6,fY t⟩)) μ):=by
 refine aK ?_
 have hd:=rC t
 rw[QD,P0 (by omega) (by simp) (by simp),ad,ah,aa,vT,bj (by simp;omega),aw,bj (by simp;omega),aw]
 rfl
theorem dz {α:Type}{l:List α}{a e:Nat}(h1:a≤e)(h2:e≤l.length):bJ l (a:Int) (e:Int)=some ((l.drop a).take (e-a)):=by
 unfold bJ
 have:(decide ((0:Int)≤(a:Int))&&decide ((a:Int)≤(e:Int))&&decide ((e:Int)≤(l.length:Int)))=true:=by simp;omega
 rw[this]
 have e1:((a:Int)).toNat=a:=by omega
 have e2:((e:Int) -(a:Int)).toNat=e-a:=by omega
 simp only[e1,e2]
theorem gp {α:Type}{l:List α}{a:Nat}(h1:a≤l.length):bJ l (a:Int) (l.length:Int)=some (l.drop a):=by
 rw[dz h1 (Nat.le_refl _)]
 congr 1
 apply List.take_of_length_le
 simp
noncomputable def yD (b:Mu)(q:Int)(from_ i:Nat)(t:List UInt8)(μ:Mu):Option (List UInt8×Nat)→St
 |none=>mt (gk 7) μ
 |some (x,k)=>qP b.length 0 ((i+k:Nat):Int) (from_:Int) (t++x) 0 0 [] μ
theorem xv {c:UInt8}(l:List UInt8):Lib.hasPrefix l [c]=(match l with|[]=>false|d::_=>decide (d=c)):=by
 cases l with
 |nil=>simp[Lib.hasPrefix]
 |cons d r=>
  by_cases h:d=c
  ·subst h;simp[Lib.hasPrefix,List.isPrefixOf]
  ·have:(c == d)=false:=by simpa using fun e:c=d=>h e.symm
   simp[Lib.hasPrefix,List.isPrefixOf,h,this]
noncomputable def td (b:Mu)(i:Int)(q:UInt8)(from_:Int)(t:List UInt8)(μ:Mu):List UInt8→St
 |[]=>mD b.length 0 i [q] from_ t 0 0 [] μ
 |d::_=>if d=q then pV b.length 0 i [q] from_ (t++[q]) 0 0 [] μ else mD b.length 0 i [q] from_ t 0 0 [] μ
theorem NJ (hs:s.length≤200000){q:UInt8}{from_:Nat}: ∀(k i:Nat) (t:List UInt8),s.length-i≤k→i≤s.length→t.length≤i→
  yw (ev E) b.length 0 (i:Int) [q] (from_:Int) t 0 0 [] (scM b s fx out kept)=some (yD b 0 from_ i t (scM b s fx out kept) (ct q (s.drop i))):=by
 intro k
 induction k with
 |zero=>
  intro i t hk hi ht
  refine bb ?_
  have h:=j2 (b:=b) (s:=s) (fx:=fx) (out:=out) (kept:=kept)
  have hd:s.drop i=[]:=List.drop_eq_nil_of_le (by omega)
  rw[zX,h,eH,cL,aa,ah,aa,gp hi,aa,hd,Ji (by simp)]
  simp only[ad,ao,aa,aj,am,ah,ae,ak,aw,cond_true,cond_false,Bool.not_true,Bool.not_false,ar,au,aq]
  have hx:Lib.index [] [q]= -1:=rfl
  have hx2:decide ((-1:Int)<0)=true:=by decide
  rw[hx,hx2,cond_true,js,dK]
  rfl
 |succ k ih=>
  intro i t hk hi ht
  refine bb ?_
  have h:=j2 (b:=b) (s:=s) (fx:=fx) (out:=out) (kept:=kept)
  rw[zX,h,eH,cL,aa,ah,aa,gp hi,aa,Ji (by simp;omega)]
  simp only[ad,ao,aa,aj,am,ah,ae,ak,aw,cond_true,cond_false,Bool.not_true,Bool.not_false,ar,au,aq]
  rcases jW (s.drop i) q with⟨h1,h2⟩|⟨a,r,h1,h2,h3⟩
  ·have hx2:decide ((-1:Int)<0)=true:=by decide
   rw[h1,hx2,cond_true,js,dK,vv _ h2]
   rfl
  ·have hx2:decide ((a.length:Int)<0)=false:=by simp
   have hlen:a.length+1+r.length=s.length-i:=by
    have:(s.drop i).length=(a++q::r).length:=by rw[h1]
    simp only[List.length_drop,List.length_append,List.length_cons]at this
    omega
   have hr:s.drop (i+(a.length+1))=r:=by
    rw[←List.drop_drop,h1]
    have:a++q::r=(a++[q])++r:=by simp
    rw[this,List.drop_left' (by simp)]
   have hta:(s.drop i).take a.length=a:=by rw[h1,List.take_left' rfl]
   rw[h3,hx2,cond_false]
   have hG:zs (ev E) b.length 0 (i:Int) [q] (from_:Int) t (a.length:Int) 0 0 [] (scM b s fx out kept)=
     some (td b ((i+(a.length+1):Nat):Int) q (from_:Int) (t++a) (scM b s fx out kept) r):=by
    refine aO ?_
    have w1:IntKind.wrap .i64 ((i:Int)+(a.length:Int))=((i+a.length:Nat):Int):=by rw[bc (by omega) (by omega)];omega
    have w2:IntKind.wrap .i64 ((a.length:Int)+1)=((a.length+1:Nat):Int):=by rw[bc (by omega) (by omega)];omega
    have w3:IntKind.wrap .i64 ((i:Int)+((a.length+1:Nat):Int))=((i+(a.length+1):Nat):Int):=by rw[bc (by omega) (by omega)];omega
    rw[KW,h,eH,cL,w1,w2,w3]
    simp only[aa,ah]
    rw[dz (by omega) (by omega),aa]
    have e2:i+a.length-i=a.length:=by omega
    rw[e2,hta,bj (by omega),aw,gp (by omega),aa,hr,OH,ad,ae,aa,xv]
    have hsm:a6 ((t++a).length+[q].length)=true:=bj (by simp;omega)
    cases r with
    |nil=>simp only[Bool.not_false,cond_true,td]
    |cons d r'=>
     by_cases hdq:d=q
     ·subst hdq
      simp only[decide_true,Bool.not_true,cond_false,td,if_true]
      rw[hsm,aw]
     ·simp only[hdq,decide_false,Bool.not_false,cond_true,td,if_false]
   rw[hG,aa,h1,wZ a _ h2]
   cases r with
   |nil=>
    rw[ky (by intro d t h;cases h)]
    simp only[td]
    rw[r6]
    simp[yD]
   |cons d r'=>
    by_cases hdq:d=q
    ·subst hdq
     simp only[td,if_true]
     simp only[List.length_cons]at hlen
     rw[p9,Bo,bc (by omega) (by omega)]
     have e1:((i+(a.length+1):Nat):Int)+1=((i+(a.length+2):Nat):Int):=by omega
     have hr2:s.drop (i+(a.length+2))=r':=by
      have:i+(a.length+2)=(i+(a.length+1))+1:=by omega
      rw[this,←List.drop_drop,hr];rfl
     rw[e1,ih (i+(a.length+2)) _ (by omega) (by omega) (by simp;omega),hr2]
     cases ct d r' with
     |none=>rfl
     |some x=>
      simp only[yD,Option.map_some]
      congr 2
      ·omega
      ·simp
    ·simp only[td,hdq,if_false]
     rw[ky (by intro e t h;cases h;exact hdq),r6]
     simp[yD]
def dP (s:List UInt8)(n:Nat):Except Int (Tok×Nat):=
 match ct ((s[n]?).getD 0) (s.drop (n+1))with
 |none=> .error 7
 |some (t,k)=>if 60<t.length then .error 8 else .ok (⟨1,6,fY t⟩,n+1+k)
def vV (b:Mu)(s:List UInt8)(fx:Bool)(out:List Tok)(kept:List Nat):Except Int (Tok×Nat×List Nat)→Out
 | .ok q=> .ret (.ltup [.cv q.1.cv,LV.int .i64 (q.2.1:Int)]) (scM b s fx out (kept++q.2.2))
 | .error e=> .panic (gk e) (scM b s fx out kept)
def dA (s:List UInt8)(n:Nat):Except Int (Tok×Nat×List Nat):=
 match dP s n with
 | .ok q=> .ok (q.1,q.2,List.range' n (q.2-n))
 | .error e=> .error e
theorem N3 (hs:s.length≤200000)(hk:kept.length≤200000){n:Nat}(hn:n<s.length):
  (ev E).call 173 [LV.cv (CV.ref b.length 0 0),LV.int .i64 (n:Int)] (scM b s fx out kept)=some (vV b s fx out kept (dA s n)):=by
 refine aK ?_
 have h:=j2 (b:=b) (s:=s) (fx:=fx) (out:=out) (kept:=kept)
 rw[PJ,h,eH,cL,aa,ah,aa,bc (by omega) (by omega)]
 have e1:(n:Int)+1=((n+1:Nat):Int):=by omega
 have e2:n+1-n=1:=by omega
 have hd:s.drop n=s[n]::s.drop (n+1):=List.drop_eq_getElem_cons hn
 rw[e1,dz (by omega) (by omega),aa,e2,hd]
 have e3:List.take 1 (s[n]::s.drop (n+1))=[s[n]]:=rfl
 rw[e3,NJ hs s.length (n+1) [] (by omega) (by omega) (by simp),aa]
 unfold dA dP
 rw[List.getElem?_eq_getElem hn,Option.getD_some]
 cases hq:ct s[n] (s.drop (n+1))with
 |none=>exact BV _ _ _
 |some x=>
  obtain⟨t,k⟩:=x
  have hl:=mG _ _ (Nat.le_refl _) t k hq
  rw[List.length_drop]at hl
  simp only[yD,List.nil_append]
  rw[AW]
  by_cases h60:60<t.length
  ·have:decide ((60:Int)<(t.length:Int))=true:=by simp;omega
   rw[this,cond_true,js,dK,if_pos h60]
   rfl
  ·have:decide ((60:Int)<(t.length:Int))=false:=by simp;omega
   rw[this,cond_false,if_neg h60]
   have hG:vD (ev E) b.length 0 ((n+1+k:Nat):Int) (n:Int) t 0 0 [] (scM b s fx out kept)=some (o4 ((n+1+k:Nat):Int) 1 6 (fY t) (scM b s fx out (kept++List.range' n (n+1+k-n)))):=by
    refine aO ?_
    rw[JH,HB hs (by omega) (by omega) (by omega)]
    simp only[ad,ao,aa,aj,am,ah,ae,ak,aw,cond_true,cond_false,Bool.not_true,Bool.not_false,ar,au,aq]
    rw[Mv (by omega),ad,dG]
   rw[hG,aa,zS]
   rfl
end
end Go.Abs
set_option linter.unusedVariables false
set_option linter.unusedSimpArgs false
namespace Go.Proofs.YtfcjjankfjaapaaGreatDoor.Glue
theorem M2:laidOutB Tryz.prog=true:=by kernel_rfl
end Go.Proofs.YtfcjjankfjaapaaGreatDoor.Glue
namespace Go.Abs.Ga
open Go Go.Proofs
section
variable {P:Program}{t:TypeId}{c:CV}
theorem is_int (ht:fc P t=false)(h:if fc P t=true then ∃ys,c= .agg ys∧IsL [.int .i64] ys else IsL [.int .i64] [c]): ∃n:Int,LV.cv c=LV.int .i64 n∧True:=by
 simp only[ht,Bool.false_eq_true,if_false,IsL,Is]at h
 obtain⟨y,r,e,⟨n,rfl,_⟩,_⟩:=h
 injection e with e _
 subst e
 exact⟨n,rfl,trivial⟩
theorem is_str (ht:fc P t=false)(h:if fc P t=true then ∃ys,c= .agg ys∧IsL [.str] ys else IsL [.str] [c]): ∃s:List UInt8,LV.cv c=LV.str s∧True:=by
 simp only[ht,Bool.false_eq_true,if_false,IsL,Is]at h
 obtain⟨y,r,e,⟨s,rfl,_⟩,_⟩:=h
 injection e with e _
 subst e
 exact⟨s,rfl,trivial⟩
theorem is_digits (ht:fc P t=true)(h:if fc P t=true then ∃ys,c= .agg ys∧IsL [.str,.int .i64] ys else IsL [.str,.int .i64] [c]): ∃x:List UInt8×Int,LV.cv c=LV.cv (CV.agg [CV.str x.1,CV.int .i64 x.2])∧ -9223372036854775808≤x.2∧x.2≤9223372036854775807:=by
 simp only[ht,if_true]at h
 obtain⟨ys,rfl,h⟩:=h
 simp only[IsL,Is]at h
 obtain⟨_,_,rfl,⟨s,rfl,_⟩,_,_,rfl,⟨b,rfl,hb⟩,rfl⟩:=h
 refine⟨⟨s,b⟩,rfl,?_⟩
 have e1:IntKind.i64.min= -9223372036854775808:=rfl
 have e2:IntKind.i64.max=9223372036854775807:=rfl
 simp[Lit.wf,e1,e2]at hb
 exact hb
end
end Go.Abs.Ga
set_option linter.unusedVariables false
set_option linter.unusedSimpArgs false
set_option maxRecDepth 100000
namespace Go.Abs
open Go Go.Proofs
section
variable {b:Mu}{s:List UInt8}{fx:Bool}{out:List Tok}{kept:List Nat}
theorem PR (ρ:Rho)(a:List CV)(b:List UInt8)(μ:Mu):aG E ρ 50 [LV.osl a,LV.str b] μ=
  callK (ρ.call 94 [LV.osl a,LV.str b] μ) (fun v1 μ2=>opt (aE .i64 v1) fun n5=>some (.ret (LV.bool (decide ((0:Int)≤n5))) μ2)) (fun v4 μ3=>az (below (List.length μ3) v4) (some (.panic v4 μ3))):=by kernel_rfl
theorem Ps (ρ:Rho)(a:List CV)(b:List UInt8)(μ:Mu):aG E ρ 94 [LV.osl a,LV.str b] μ=aG E ρ 94 [LV.cv (CV.sl a),LV.str b] μ:=by kernel_rfl
theorem OS {l:List (List UInt8)}{x:List UInt8}{μ:Mu}(hl:l.length≤1000000):(ev E).call 94 [LV.osl (bA l),LV.str x] μ=some (.ret (LV.int .i64 (ph x l 0)) μ):=by
 refine aK ?_
 rw[Ps]
 exact HO hl
theorem Pi {l:List (List UInt8)}{x:List UInt8}{μ:Mu}(hl:l.length≤1000000):(ev E).call 50 [LV.osl (bA l),LV.str x] μ=some (.ret (LV.bool (l.contains x)) μ):=by
 refine aK ?_
 rw[PR,OS hl]
 simp only[ad,ao,aa,aj,am,ah,ae,ak,aw,cond_true,cond_false,Bool.not_true,Bool.not_false,ar,au,aq]
 rw[tC]
def fg (fx:Bool)(s:List UInt8)(n:Nat):Int:=cw (cl fx ay s n)
def od (fx:Bool)(s:List UInt8)(n:Nat):UInt8:=atC fx s (runE fx ay s n)
def holE (fx:Bool)(s:List UInt8)(n:Nat):Nat:=atE fx s (runE fx ay s n)
def kZ (fx:Bool)(s:List UInt8)(n:Nat):Prop:=(cl fx ay s n).length≤2∧1≤fg fx s n∧fg fx s n≤60∧(od fx s n=72∨od fx s n=104)
instance (fx:Bool)(s:List UInt8)(n:Nat):Decidable (kZ fx s n):=by unfold kZ;infer_instance
def m3 (fx:Bool)(s:List UInt8)(n:Nat):Except Int (Tok×Nat×List Nat):=
 if s.length<holE fx s n+(fg fx s n).toNat then .error 7
 else .ok (⟨1,6,fY ((s.drop (holE fx s n)).take (fg fx s n).toNat)⟩,holE fx s n+(fg fx s n).toNat,List.range' (holE fx s n) (fg fx s n).toNat)
def LE (b:Mu)(s:List UInt8)(fx:Bool)(out:List Tok)(kept:List Nat):Except Int (Tok×Nat×List Nat)→Out
 | .ok q=> .ret (.ltup [.cv q.1.cv,LV.int .i64 (q.2.1:Int),LV.bool true]) (scM b s fx out (kept++q.2.2))
 | .error e=> .panic (gk e) (scM b s fx out kept)
def Mr:Tok:=⟨0,0,[]⟩
theorem Om (hs:s.length≤200000)(hk:kept.length≤200000){n:Nat}(hn:n≤s.length):
  (ev E).call 167 [LV.cv (CV.ref b.length 0 0),LV.int .i64 (n:Int)] (scM b s fx out kept)=some (if kZ fx s n then LE b s fx out kept (m3 fx s n)else .ret (.ltup [.cv Mr.cv,LV.int .i64 (n:Int),LV.bool false]) (scM b s fx out kept)):=by
 have h:=j2 (b:=b) (s:=s) (fx:=fx) (out:=out) (kept:=kept)
 have hr:=iF (fx:=fx) (s:=s) (p:=ay) (n:=n)
 have hle:=gX (fx:=fx) (p:=ay) hn
 have hE:holE fx s n≤s.length:=fU hle
 have e72: ∀c:UInt8,decide ((c.toNat:Int)=72)=decide (c=72):=fun c=>bG (k:=72) (by omega)
 have e104: ∀c:UInt8,decide ((c.toNat:Int)=104)=decide (c=104):=fun c=>bG (k:=104) (by omega)
 refine aK ?_
 rw[P2,nk h (by omega) (fun c=>kH) hn]
 simp only[ad,ao,aa,aj,am,ah,ae,ak,aw,cond_true,cond_false,Bool.not_true,Bool.not_false,ar,au,aq]
 rw[gF h (by omega) hle]
 simp only[ad,ao,aa,aj,am,ah,ae,ak,aw,cond_true,cond_false,Bool.not_true,Bool.not_false,ar,au,aq]
 rw[t7 (by omega),lM]
 simp only[ad,ao,aa,aj,am,ah,ae,ak,aw,cond_true,cond_false,Bool.not_true,Bool.not_false,ar,au,aq,iQ,e72,e104]
 have hNd:cw (cl fx ay s n)=fg fx s n:=rfl
 have hCd:atC fx s (runE fx ay s n)=od fx s n:=rfl
 have hEd:atE fx s (runE fx ay s n)=holE fx s n:=rfl
 rw[hNd,hCd,hEd]
 by_cases h1:2<(cl fx ay s n).length
 ·have:decide ((2:Int)<((cl fx ay s n).length:Int))=true:=by simp;omega
  rw[this,cond_true,if_neg (by unfold kZ;omega)]
  rfl
 ·have e1:decide ((2:Int)<((cl fx ay s n).length:Int))=false:=by simp;omega
  rw[e1,cond_false]
  by_cases h2:fg fx s n<1
  ·have:decide (fg fx s n<1)=true:=by simp[h2]
   rw[this,cond_true,if_neg (by unfold kZ;omega)]
   rfl
  ·have e2:decide (fg fx s n<1)=false:=by simp[h2]
   rw[e2,cond_false]
   by_cases h3:60<fg fx s n
   ·have:decide (60<fg fx s n)=true:=by simp[h3]
    rw[this,cond_true,if_neg (by unfold kZ;omega)]
    rfl
   ·have e3:decide (60<fg fx s n)=false:=by simp[h3]
    rw[e3,cond_false]
    obtain⟨m,hm⟩: ∃m:Nat,fg fx s n=(m:Int):=⟨(fg fx s n).toNat,by omega⟩
    have hG:uE (ev E) b.length 0 (holE fx s n:Nat) (fg fx s n) 0 0 [] (scM b s fx out kept)=some (match m3 fx s n with| .ok q=>qC (q.2.1:Int) true q.1.kind q.1.type q.1.text (scM b s fx out (kept++q.2.2))| .error e=>rj (gk e) (scM b s fx out kept)):=by
     refine aO ?_
     have w1:IntKind.wrap .i64 ((holE fx s n:Int)+(m:Int))=((holE fx s n+m:Nat):Int):=by rw[bc (by omega) (by omega)];omega
     have e0:((m:Int)).toNat=m:=by omega
     unfold m3
     rw[Ko,h,eH,cL,hm,w1,e0]
     simp only[ad,ao,aa,aj,am,ah,ae,ak,aw,cond_true,cond_false,Bool.not_true,Bool.not_false,ar,au,aq]
     by_cases h4:s.length<holE fx s n+m
     ·have:decide ((s.length:Int)<((holE fx s n+m:Nat):Int))=true:=by simp;omega
      rw[this,cond_true,js,dK,if_pos h4]
     ·have:decide ((s.length:Int)<((holE fx s n+m:Nat):Int))=false:=by simp;omega
      rw[this,cond_false,if_neg h4]
      have hG8:Aa (ev E) b.length 0 (holE fx s n:Nat) (m:Int) 0 0 [] (scM b s fx out kept)=some (qi ((holE fx s n+m:Nat):Int) true 1 6 (fY ((s.drop (holE fx s n)).take m)) (scM b s fx out (kept++List.range' (holE fx s n) m))):=by
       refine aO ?_
       have h':=j2 (b:=b) (s:=s) (fx:=fx) (out:=out) (kept:=kept++List.range' (holE fx s n) m)
       have e5:holE fx s n+m-holE fx s n=m:=by omega
       rw[LL,w1,HB hs (by omega) (by omega) (by omega),e5]
       simp only[ad,ao,aa,aj,am,ah,ae,ak,aw,cond_true,cond_false,Bool.not_true,Bool.not_false,ar,au,aq]
       rw[h',eH,cL]
       simp only[ad,ao,aa,aj,am,ah,ae,ak,aw,cond_true,cond_false,Bool.not_true,Bool.not_false,ar,au,aq]
       rw[dz (by omega) (by omega),aa,e5,Mv (by simp;omega),ad,dG]
      rw[hG8,aa,Cd]
    have hfin:(opt (uE (ev E) b.length 0 (holE fx s n:Nat) (fg fx s n) 0 0 [] (scM b s fx out kept)) (kB (ev E) 167 lR []))=some (LE b s fx out kept (m3 fx s n)):=by
     rw[hG,aa]
     cases m3 fx s n with
     |ok q=>exact Ca _ _ _ _ _ _ _
     |error e=>exact A5 _ _ _
    by_cases h5:od fx s n=72
    ·have:decide (od fx s n=72)=true:=by simp[h5]
     rw[this,if_pos ⟨by omega,by omega,by omega,Or.inl h5⟩]
     exact hfin
    ·have e5:decide (od fx s n=72)=false:=by simp[h5]
     rw[e5]
     by_cases h6:od fx s n=104
     ·have:decide (od fx s n=104)=true:=by simp[h6]
      rw[this,if_pos ⟨by omega,by omega,by omega,Or.inr h6⟩]
      exact hfin
     ·have e6:decide (od fx s n=104)=false:=by simp[h6]
      rw[e6,if_neg (by unfold kZ;intro hh;exact hh.2.2.2.elim h5 h6)]
      rfl
def tT (fx:Bool)(out:List Tok):Bool:=fx&&(match out.getLast? with|none=>true|some t=>decide (t.kind=2)&&[[40],[44],[47],[61]].contains t.text)
theorem N7 (ho:out.length≤200000):(ev E).call 166 [LV.cv (CV.ref b.length 0 0)] (scM b s fx out kept)=some (.ret (LV.bool (tT fx out)) (scM b s fx out kept)):=by
 refine aK ?_
 have h:=j2 (b:=b) (s:=s) (fx:=fx) (out:=out) (kept:=kept)
 rw[PN,h,tH,pc]
 simp only[ad,ao,aa,aj,am,ah,ae,ak,aw,cond_true,cond_false,Bool.not_true,Bool.not_false,ar,au,aq]
 cases fx with
 |false=>rfl
 |true=>
  simp only[ad,ao,aa,aj,am,ah,ae,ak,aw,cond_true,cond_false,Bool.not_true,Bool.not_false,ar,au,aq]
  have hlen:(aQ out).length=out.length:=by simp[aQ]
  have hG:G6 (ev E) b.length 0 (scM b s true out kept)=some (mK (tT true out) (scM b s true out kept)):=by
   refine aO ?_
   rw[KY,h,Mb,aa,EY,aa,hlen]
   by_cases h0:out=[]
   ·subst h0;rfl
   ·have hpos:0<out.length:=by
     cases out with
     |nil=>exact absurd rfl h0
     |cons a r=>simp
    have e0:decide ((out.length:Int)=0)=false:=by simp[h0]
    rw[e0,cond_false]
    have hg:out.getLast?=some (out.getLast h0):=List.getLast?_eq_some_getLast h0
    have hG5:GX (ev E) b.length 0 (scM b s true out kept)=some (mC (tT true out) (scM b s true out kept)):=by
     refine aO ?_
     rw[LD,h,Mb,aa,EY,aa,aa,EY,aa,hlen,bc (by omega) (by omega)]
     have e1:(out.length:Int) -1=((out.length-1:Nat):Int):=by omega
     have e2:(aQ out)[out.length-1]? =some (out.getLast h0).cv:=by
      unfold aQ
      rw[List.getElem?_map,List.getElem?_eq_getElem (by omega),List.getLast_eq_getElem]
      rfl
     rw[e1,iC,e2,aa,dG]
     unfold tT
     rw[hg]
     simp only[Bool.true_and]
     by_cases hk:(out.getLast h0).kind=2
     ·have:decide ((out.getLast h0).kind=2)=true:=by simp[hk]
      rw[this,cond_true]
      have e3:LV.osl [CV.str ([40]:List UInt8),CV.str ([44]:List UInt8),CV.str ([47]:List UInt8),CV.str ([61]:List UInt8)]=LV.osl (bA [[40],[44],[47],[61]]):=rfl
      rw[e3,Pi (by simp)]
      simp only[ad,ao,aa,aj,am,ah,ae,ak,aw,cond_true,cond_false,Bool.not_true,Bool.not_false,ar,au,aq,Bool.true_and]
     ·have:decide ((out.getLast h0).kind=2)=false:=by simp[hk]
      rw[this,cond_false,Bool.false_and]
    rw[hG5,aa,Bg]
  rw[hG,aa,BW]
def eY (t:List UInt8):Option (List UInt8):=
 if t=[60,61]then some [46,76,69,46]else if t=[62,61]then some [46,71,69,46]else if t=[61,61]then some [46,69,81,46]else if t=[47,61]then some [46,78,69,46]
 else if t=[60]then some [46,76,84,46]else if t=[62]then some [46,71,84,46]else none
def ez (fx:Bool)(s:List UInt8)(n:Nat):Except Int (Tok×Nat):=
 let a:=atC fx s n
 let m:=atE fx s n
 let c:=atC fx s m
 match eY [a,c]with
 |some w=> .ok (⟨2,0,w⟩,atE fx s m)
 |none=>if c≠0∧bW.contains [a,c]then .ok (⟨2,0,[a,c]⟩,atE fx s m)
  else match eY [a]with
   |some w=> .ok (⟨2,0,w⟩,m)
   |none=>if bW.contains [a]then .ok (⟨2,0,[a]⟩,m)else .error 7
end
end Go.Abs
set_option linter.unusedVariables false
set_option linter.unusedSimpArgs false
set_option maxRecDepth 100000
namespace Go.Abs
open Go Go.Proofs
def ksV:List Value:=[Value.string ⟨⟨([60,61]:List UInt8)⟩⟩,Value.string ⟨⟨([62,61]:List UInt8)⟩⟩,Value.string ⟨⟨([61,61]:List UInt8)⟩⟩,Value.string ⟨⟨([47,61]:List UInt8)⟩⟩,Value.string ⟨⟨([60]:List UInt8)⟩⟩,Value.string ⟨⟨([62]:List UInt8)⟩⟩]
def vsV:List CV:=[CV.str ([46,76,69,46]:List UInt8),CV.str ([46,71,69,46]:List UInt8),CV.str ([46,69,81,46]:List UInt8),CV.str ([46,78,69,46]:List UInt8),CV.str ([46,76,84,46]:List UInt8),CV.str ([46,71,84,46]:List UInt8)]
section
variable {b:Mu}{s:List UInt8}{fx:Bool}{out:List Tok}{kept:List Nat}{μ:Mu}
theorem Jc:(ev E).call 196 [] μ=some (.ret (LV.cv (CV.mview ksV vsV)) μ):=aK (by rw[P3];rfl)
theorem z8 {s:S}:rU (LV.cv (CV.mview ksV vsV)) s μ=some (ksV,vsV):=rfl
theorem CZ:jb .string ksV=true:=by decide
theorem vc (t:List UInt8):fl ksV vsV (Value.string ⟨⟨t⟩⟩)=(eY t).map CV.str:=by
 have h: ∀u:List UInt8,oJ (Value.string ⟨⟨t⟩⟩) (Value.string ⟨⟨u⟩⟩)=decide (t=u):=fun u=>rfl
 simp only[ksV,vsV,fl,h]
 unfold eY
 by_cases h1:t=[60,61]
 ·simp[h1]
 ·by_cases h2:t=[62,61]
  ·simp[h2]
  ·by_cases h3:t=[61,61]
   ·simp[h3]
   ·by_cases h4:t=[47,61]
    ·simp[h4]
    ·by_cases h5:t=[60]
     ·simp[h5]
     ·by_cases h6:t=[62]
      ·simp[h6]
      ·simp[h1,h2,h3,h4,h5,h6]
theorem OD {a:UInt8}:bd [CV.int .u8 (a.toNat:Int)]=some [a]:=cJ [a]
theorem OE {a c:UInt8}:bd [CV.int .u8 (a.toNat:Int),CV.int .u8 (c.toNat:Int)]=some [a,c]:=cJ [a,c]
theorem Ix {a:UInt8}{m:Nat}{x y:Int}{z:List UInt8}:C5 (ev E) (m:Int) [a] x y z μ=some (stT μ la jq (if bW.contains [a]then .ok (⟨2,0,[a]⟩,m)else .error 7)):=by
 refine aO ?_
 rw[HM,Mi]
 simp only[ad,ao,aa,aj,am,ah,ae,ak,aw,cond_true,cond_false,Bool.not_true,Bool.not_false,ar,au,aq]
 rw[FC (l:=bW) (by decide)]
 simp only[ad,ao,aa,aj,am,ah,ae,ak,aw,cond_true,cond_false,Bool.not_true,Bool.not_false,ar,au,aq]
 cases bW.contains [a]with
 |true=>rfl
 |false=>rw[Bool.not_false,cond_true,js,dK];rfl
def one (a:UInt8)(m:Nat):Except Int (Tok×Nat):=match eY [a]with
   |some w=> .ok (⟨2,0,w⟩,m)
   |none=>if bW.contains [a]then .ok (⟨2,0,[a]⟩,m)else .error 7
theorem Av {a:UInt8}{m:Nat}{x y:Int}{z:List UInt8}:AJ (ev E) (a.toNat:Int) (m:Int) x y z μ=some (stT μ kN ku (one a m)):=by
 refine aO ?_
 rw[KG,OD,aa,Jc,ad]
 simp only[ad,ao,aa,aj,am,ah,ae,ak,aw,cond_true,cond_false,Bool.not_true,Bool.not_false,ar,au,aq,iQ,z8,CZ,vc]
 unfold one
 cases eY [a]with
 |some w=>rfl
 |none=>
  simp only[Option.map_none,optE]
  rw[Ix,aa]
  cases bW.contains [a]with
  |true=>exact Aq _ _ _ _ _ _
  |false=>exact yu _ _ _
theorem J3 {a c:UInt8}{m e:Nat}{x y:Int}{z:List UInt8}:IP (ev E) (a.toNat:Int) (m:Int) (c.toNat:Int) (e:Int) [a,c] x y z μ=some (stT μ iX gw (if c≠0∧bW.contains [a,c]then .ok (⟨2,0,[a,c]⟩,e)else one a m)):=by
 refine aO ?_
 have hone:kS (ev E) g9 [] [(4,0),(5,0)] (stT μ kN ku (one a m))=some (stT μ iX gw (one a m)):=by
  cases one a m with
  |ok q=>exact By _ _ _ _ _ _
  |error e=>exact B0 _ _ _
 rw[JW,m5,Av,aa,hone,Mi]
 simp only[ad,ao,aa,aj,am,ah,ae,ak,aw,cond_true,cond_false,Bool.not_true,Bool.not_false,ar,au,aq]
 rw[FC (l:=bW) (by decide)]
 simp only[ad,ao,aa,aj,am,ah,ae,ak,aw,cond_true,cond_false,Bool.not_true,Bool.not_false,ar,au,aq]
 by_cases hc:c=0
 ·subst hc;rfl
 ·have h1:(c != 0)=true:=by simp[hc]
  rw[h1]
  simp only[ad,ao,aa,aj,am,ah,ae,ak,aw,cond_true,cond_false,Bool.not_true,Bool.not_false,ar,au,aq,hc,ne_eq,not_false_eq_true,true_and]
  cases bW.contains [a,c]with
  |true=>rfl
  |false=>
   rw[cond_false,Av,aa,hone]
   rfl
theorem Pa {l i:Nat}{r:List LV}(h:Sc μ l i s fx r)(hs:s.length≤200000){n:Nat}(hn:n≤s.length):
  (ev E).call 174 [LV.cv (CV.ref l i 0),LV.int .i64 (n:Int)] μ=some (qf μ (ez fx s n)):=by
 have hle:=fU (fx:=fx) hn
 refine aK ?_
 rw[Qj,gF h (by omega) hn]
 simp only[ad,ao,aa,aj,am,ah,ae,ak,aw,cond_true,cond_false,Bool.not_true,Bool.not_false,ar,au,aq]
 rw[gF h (by omega) hle]
 simp only[ad,ao,aa,aj,am,ah,ae,ak,aw,cond_true,cond_false,Bool.not_true,Bool.not_false,ar,au,aq]
 rw[OE,aa,Jc,ad]
 simp only[ad,ao,aa,aj,am,ah,ae,ak,aw,cond_true,cond_false,Bool.not_true,Bool.not_false,ar,au,aq,iQ,z8,CZ,vc]
 unfold ez
 simp only
 rw[J3,aa]
 cases eY [atC fx s n,atC fx s (atE fx s n)]with
 |some w=>rfl
 |none=>
  simp only[Option.map_none,optE]
  have: ∀q:Except Int (Tok×Nat),kB (ev E) 174 g9 [] (stT μ iX gw q)=some (qf μ q):=by
   intro q
   cases q with
   |ok q=>exact Bp _ _ _ _ _ _
   |error e=>exact A4 _ _ _
  rw[this]
  rfl
def noK:Except Int (Tok×Nat)→Except Int (Tok×Nat×List Nat)
 | .ok q=> .ok (q.1,q.2,[])
 | .error e=> .error e
def dF (w:List UInt8):Tok:=if w=eK∨w=d5 then⟨1,5,w⟩else⟨2,0,w⟩
def dO (fx:Bool)(s:List UInt8)(n:Nat)(c:UInt8):Except Int (Tok×Nat×List Nat):=
 if bg c then(if 31<(cl fx bI s n).length then .error 4 else .ok (⟨0,0,up (cl fx bI s n)⟩,runE fx bI s n,[]))
 else if ay c||(decide (c=46)&&ay (atC fx s (n+1)))then noK (db fx s n)
 else if c=46 then(if(ck fx s n).2.2 then .ok (dF (ck fx s n).1,(ck fx s n).2.1,[])else .error 7)
 else if c=39∨c=34 then dA s n
 else noK (ez fx s n)
def d6 (fx:Bool)(s:List UInt8)(out:List Tok)(n:Nat):Except Int (Tok×Nat×List Nat):=
 if tT fx out&&ay ((s[n]?).getD 0)&&decide (kZ fx s n)then m3 fx s n else dO fx s n ((s[n]?).getD 0)
def stK (b:Mu)(s:List UInt8)(fx:Bool)(out:List Tok)(kept:List Nat):Except Int (Tok×Nat×List Nat)→St
 | .ok q=>cq (q.2.1:Int) q.1.kind q.1.type q.1.text (scM b s fx out (kept++q.2.2))
 | .error e=>bq (gk e) (scM b s fx out kept)
theorem DI {q:Except Int (Tok×Nat)}:stT (scM b s fx out kept) cq bq q=stK b s fx out kept (noK q):=by
 cases q with
 |ok q=>simp only[stT,noK,stK,List.append_nil]
 |error e=>rfl
theorem Hx {w:List UInt8}{e:Nat}{x y:Int}{z:List UInt8}:(opt (iI (ev E) w (e:Int) x y z μ) (kS (ev E) d9 [.block 0,.seq (cA 148 [1,1,1,1,1])] [(4,0),(5,0)]))=some (cq (e:Int) (dF w).kind (dF w).type (dF w).text μ):=by
 have:iI (ev E) w (e:Int) x y z μ=some (i8 (e:Int) (dF w).kind (dF w).type (dF w).text μ):=by
  refine aO ?_
  rw[Jo]
  have h3:([46,84,82,85,69,46]:List UInt8)=eK:=rfl
  have h4:([46,70,65,76,83,69,46]:List UInt8)=d5:=rfl
  rw[h3,h4]
  unfold dF
  by_cases h1:w=eK
  ·simp[h1]
  ·by_cases h2:w=d5
   ·simp[h2]
   ·simp[h1,h2]
 rw[this,aa,yy]
theorem Ik (hs:s.length≤200000){n:Nat}(hn:n≤s.length){x y:Int}{z:List UInt8}:(opt (nG (ev E) b.length 0 (n:Int) x y z (scM b s fx out kept)) (kS (ev E) d9 [] [(4,0),(5,0)]))=some (stK b s fx out kept (noK (ez fx s n))):=by
 have:nG (ev E) b.length 0 (n:Int) x y z (scM b s fx out kept)=some (stT (scM b s fx out kept) oe oc (ez fx s n)):=by
  refine aO ?_
  rw[HX,Pa j2 hs hn]
  cases ez fx s n with
  |ok q=>simp only[qf,ad,ao,aa,aj,am,ah,ae,ak,aw,cond_true,cond_false,Bool.not_true,Bool.not_false,ar,au,aq,dG];rfl
  |error e=>rfl
 rw[this,aa,←DI]
 cases ez fx s n with
 |ok q=>exact zP _ _ _ _ _ _
 |error e=>exact zK _ _ _
theorem K7 (hs:s.length≤200000)(hk:kept.length≤200000){n:Nat}(hn:n<s.length){x y:Int}{z:List UInt8}:qm (ev E) b.length 0 (n:Int) (((s[n]?).getD 0).toNat:Int) x y z (scM b s fx out kept)=some (stK b s fx out kept (dO fx s n ((s[n]?).getD 0))):=by
 have h:=j2 (b:=b) (s:=s) (fx:=fx) (out:=out) (kept:=kept)
 have e46: ∀c:UInt8,decide ((c.toNat:Int)=46)=decide (c=46):=fun c=>bG (k:=46) (by omega)
 have e39: ∀c:UInt8,decide ((c.toNat:Int)=39)=decide (c=39):=fun c=>bG (k:=39) (by omega)
 have e34: ∀c:UInt8,decide ((c.toNat:Int)=34)=decide (c=34):=fun c=>bG (k:=34) (by omega)
 have w1:IntKind.wrap .i64 ((n:Int)+1)=((n+1:Nat):Int):=by rw[bc (by omega) (by omega)];omega
 have hr:=iF (fx:=fx) (s:=s) (p:=bI) (n:=n)
 obtain⟨c,hc⟩: ∃c,c=(s[n]?).getD 0:=⟨_,rfl⟩
 rw[←hc]
 have hnum: ∀{k1 k2:CV→Mu→Option St},callK (some (qf (scM b s fx out kept) (db fx s n))) (fun v μ=>opt (aR v) fun xs=>opt (aA xs) fun q=>fM q.1 fun n1 n2 s3=>opt (aA q.2) fun q2=>opt (aE .i64 q2.1) fun n4=>opt (aM q2.2) fun u=>some (cq n4 n1 n2 s3 μ)) (fun v μ=>some (bq v μ))=some (stK b s fx out kept (noK (db fx s n))):=by
  intro k1 k2
  rw[←DI]
  cases db fx s n with
  |ok q=>simp only[qf,ad,ao,aa,aj,am,ah,ae,ak,aw,cond_true,cond_false,Bool.not_true,Bool.not_false,ar,au,aq,dG];rfl
  |error e=>rfl
 have hquo:callK (some (vV b s fx out kept (dA s n))) (fun v μ=>opt (aR v) fun xs=>opt (aA xs) fun q=>fM q.1 fun n1 n2 s3=>opt (aA q.2) fun q2=>opt (aE .i64 q2.1) fun n4=>opt (aM q2.2) fun u=>some (cq n4 n1 n2 s3 μ)) (fun v μ=>some (bq v μ))=some (stK b s fx out kept (dA s n)):=by
  cases dA s n with
  |ok q=>simp only[vV,ad,ao,aa,aj,am,ah,ae,ak,aw,cond_true,cond_false,Bool.not_true,Bool.not_false,ar,au,aq,dG];rfl
  |error e=>rfl
 refine aO ?_
 rw[JT,w1,gF h (by omega) (by omega)]
 simp only[ad,ao,aa,aj,am,ah,ae,ak,aw,cond_true,cond_false,Bool.not_true,Bool.not_false,ar,au,aq]
 rw[Gy]
 simp only[ad,ao,aa,aj,am,ah,ae,ak,aw,cond_true,cond_false,Bool.not_true,Bool.not_false,ar,au,aq]
 unfold dO
 cases hlet:bg c with
 |true=>
  rw[cond_true,nk h (by omega) (fun c=>Pq) (by omega)]
  simp only[ad,ao,aa,aj,am,ah,ae,ak,aw,cond_true,cond_false,Bool.not_true,Bool.not_false,ar,au,aq,if_true]
  by_cases h31:31<(cl fx bI s n).length
  ·have:decide ((31:Int)<((cl fx bI s n).length:Int))=true:=by simp;omega
   rw[this,cond_true,js,dK,if_pos h31]
   rfl
  ·have:decide ((31:Int)<((cl fx bI s n).length:Int))=false:=by simp;omega
   rw[this,cond_false,LW (by omega),ad,ah,aa,if_neg h31]
   simp only[stK,List.append_nil]
 |false=>
  rw[cond_false,kH]
  simp only[ad,ao,aa,aj,am,ah,ae,ak,aw,cond_true,cond_false,Bool.not_true,Bool.not_false,ar,au,aq,Bool.false_eq_true,if_false,e46,e39,e34]
  have hdot: ∀(o:Option St),(decide (c=46)&&ay (atC fx s (n+1)))=false→ay c=false→
    cond (decide (c = 46)) (callK ((ev E).call 172 [LV.cv (CV.ref b.length 0 0), LV.int .i64 (n : Int)] (scM b s fx out kept)) (fun v103 μ104 =>
     opt (aR v103) fun xs107=>
     opt (aA xs107) fun q108=>
     opt (aI q108.1) fun s109=>
     opt (aA q108.2) fun q110=>
     opt (aE .i64 q110.1) fun n111=>
     opt (aA q110.2) fun q112=>
     opt (aN q112.1) fun b113=>
     opt (aM q112.2) fun u114=>
     cond (!b113) (
     callK ((ev E).call 170 [LV.int .i64 (7 : Int)] μ104) (fun v115 μ116 =>
     opt (aR v115) fun xs119=>
     opt (aM xs119) fun u120=>
     opt (iI (ev E) s109 n111 x y z μ116) (kS (ev E) d9 [.block 0,.seq (cA 148 [1,1,1,1,1])] [(4,0),(5,0)])) (fun v118 μ117=>
     some (bq v118 μ117))) (
     opt (iI (ev E) s109 n111 x y z μ104) (kS (ev E) d9 [.block 0,.seq (cA 148 [1,1,1,1,1])] [(4,0),(5,0)]))) (fun v106 μ105=>
     some (bq v106 μ105))) o=if c=46 then some (stK b s fx out kept (if(ck fx s n).2.2 then .ok (dF (ck fx s n).1,(ck fx s n).2.1,[])else .error 7))else o:=by
   intro o h1 h2
   by_cases h46:c=46
   ·have:decide (c=46)=true:=by simp[h46]
    rw[this,cond_true,GY h hs (by omega),if_pos h46]
    simp only[ad,ao,aa,aj,am,ah,ae,ak,aw,cond_true,cond_false,Bool.not_true,Bool.not_false,ar,au,aq]
    cases hd:(ck fx s n).2.2 with
    |true=>
     rw[Bool.not_true,cond_false,Hx]
     simp only[if_true,stK,List.append_nil]
    |false=>
     rw[Bool.not_false,cond_true,js,dK]
     rfl
   ·have:decide (c=46)=false:=by simp[h46]
    rw[this,cond_false,if_neg h46]
  have htail: ∀(o1:Option St),o1=some (stK b s fx out kept (dA s n))→
    cond (decide (c=39)) o1 (cond (decide (c=34)) o1 (opt (nG (ev E) b.length 0 (n:Int) x y z (scM b s fx out kept)) (kS (ev E) d9 [] [(4,0),(5,0)])))=
     some (stK b s fx out kept (if c=39∨c=34 then dA s n else noK (ez fx s n))):=by
   intro o1 ho
   rw[Ik hs (by omega),ho]
   by_cases h1:c=39
   ·simp[h1]
   ·by_cases h2:c=34
    ·simp[h2]
    ·simp[h1,h2]
  cases hdig:ay c with
  |true=>
   rw[cond_true,Ju h hs (by omega)]
   simp only[Bool.true_or,if_true]
   exact hnum (k1:=fun _ _=>none) (k2:=fun _ _=>none)
  |false=>
   rw[cond_false]
   by_cases h46:c=46
   ·have h1:decide (c=46)=true:=by simp[h46]
    rw[h1,cond_true,kH]
    simp only[ad,ao,aa,aj,am,ah,ae,ak,aw,cond_true,cond_false,Bool.not_true,Bool.not_false,ar,au,aq,Bool.false_or,Bool.true_and]
    cases hd2:ay (atC fx s (n+1))with
    |true=>
     rw[cond_true,Ju h hs (by omega)]
     simp only[if_true]
     exact hnum (k1:=fun _ _=>none) (k2:=fun _ _=>none)
    |false=>
     have:=hdot none (by rw[hd2];simp) hdig
     rw[h1,cond_true]at this
     simp only[ad,ao,aa,aj,am,ah,ae,ak,aw,cond_true,cond_false,Bool.not_true,Bool.not_false,ar,au,aq,Bool.false_eq_true,if_false]
     rw[this,if_pos h46,if_pos h46]
   ·have h1:decide (c=46)=false:=by simp[h46]
    rw[h1,cond_false,cond_false,N3 hs hk hn]
    simp only[Bool.false_or,Bool.false_and,Bool.false_eq_true,if_false]
    rw[if_neg h46]
    exact htail _ hquo
theorem ID (hs:s.length≤200000)(hk:kept.length≤200000)(ho:out.length≤200000){n:Nat}(hn:n<s.length):
  (ev E).call 148 [LV.cv (CV.ref b.length 0 0),LV.int .i64 (n:Int)] (scM b s fx out kept)=some (vV b s fx out kept (d6 fx s out n)):=by
 have h:=j2 (b:=b) (s:=s) (fx:=fx) (out:=out) (kept:=kept)
 have hfin: ∀{x y:Int} {z:List UInt8},(opt (qm (ev E) b.length 0 (n:Int) (((s[n]?).getD 0).toNat:Int) x y z (scM b s fx out kept)) (kB (ev E) 148 d9 []))=some (vV b s fx out kept (dO fx s n ((s[n]?).getD 0))):=by
  intro x y z
  rw[K7 hs hk hn,aa]
  cases dO fx s n ((s[n]?).getD 0)with
  |ok q=>exact B6 _ _ _ _ _ _
  |error e=>exact A8 _ _ _
 refine aK ?_
 have hg:s[n]? =some ((s[n]?).getD 0):=by rw[List.getElem?_eq_getElem hn,Option.getD_some]
 rw[PT,h,eH,cL,aa,ah,aa,gu,hg,aa,N7 ho]
 simp only[ad,ao,aa,aj,am,ah,ae,ak,aw,cond_true,cond_false,Bool.not_true,Bool.not_false,ar,au,aq]
 unfold d6
 cases hm:tT fx out with
 |false=>
  rw[cond_false,hfin]
  rfl
 |true=>
  rw[cond_true,kH]
  simp only[ad,ao,aa,aj,am,ah,ae,ak,aw,cond_true,cond_false,Bool.not_true,Bool.not_false,ar,au,aq]
  cases hd:ay ((s[n]?).getD 0)with
  |false=>
   rw[cond_false,hfin]
   rfl
  |true=>
   rw[cond_true,Om hs hk (by omega)]
   by_cases hh:kZ fx s n
   ·simp only[hh,if_true,Bool.true_and,decide_true]
    cases m3 fx s n with
    |ok q=>simp only[LE,ad,ao,aa,aj,am,ah,ae,ak,aw,cond_true,cond_false,Bool.not_true,Bool.not_false,ar,au,aq,dG];rfl
    |error e=>rfl
   ·simp only[hh,if_false,Bool.true_and,decide_false,Bool.false_eq_true]
    simp only[ad,ao,aa,aj,am,ah,ae,ak,aw,cond_true,cond_false,Bool.not_true,Bool.not_false,ar,au,aq,dG]
    exact hfin
end
end Go.Abs
set_option linter.unusedVariables false
set_option linter.unusedSimpArgs false
set_option maxRecDepth 100000
namespace Go.Abs
open Go Go.Proofs
section
variable {b:Mu}{s:List UInt8}{fx:Bool}{out:List Tok}{kept:List Nat}{μ:Mu}
theorem Nm {n:Nat}{c:UInt8}(h:s[n]? =some c)(hc:c≠32):skipN fx s n=n:=by
 unfold skipN
 split
 ·have hn:n<s.length:=by
   rcases Nat.lt_or_ge n s.length with h1|h1
   ·exact h1
   ·rw[List.getElem?_eq_none h1]at h;cases h
  have hd:s.drop n=s[n]::s.drop (n+1):=List.drop_eq_getElem_cons hn
  rw[List.getElem?_eq_getElem hn]at h
  injection h with h
  rw[hd,ba,h,if_neg hc]
  rfl
 ·rfl
theorem fE {n:Nat}{c:UInt8}(h:s[n]? =some c):n<s.length:=by
 rcases Nat.lt_or_ge n s.length with h1|h1
 ·exact h1
 ·rw[List.getElem?_eq_none h1]at h;cases h
theorem nR {n:Nat}{c:UInt8}(h:s[n]? =some c)(hc:c≠32):atC fx s n=c∧atE fx s n=n+1:=by
 have hn:=fE h
 unfold atC atE
 rw[Nm h hc,h]
 exact⟨rfl,by rw[if_pos hn]⟩
theorem nx {n:Nat}:n≤atE fx s n:=by
 have:=yA (fx:=fx) (s:=s) (n:=n)
 unfold atE
 split<;>omega
theorem lC {p:UInt8→Bool}{n:Nat}:n≤runE fx p s n:=by unfold runE;omega
theorem Dv {p:UInt8→Bool}{n:Nat}{c:UInt8}(h:s[n]? =some c)(hc:c≠32)(h0:c≠0)(hp:p c=true):n+1≤runE fx p s n:=by
 obtain⟨h1,h2⟩:=nR (fx:=fx) h hc
 have:=(wT (fx:=fx) (s:=s) (p:=p) (n:=n) (by rw[h1,hp];simp[h0])).2
 rw[this,h2]
 exact lC
def FK (s:List UInt8)(n:Nat):Except Int (Tok×Nat×List Nat)→Prop
 | .ok q=>n<q.2.1∧q.2.1≤s.length∧q.2.2.length+n≤q.2.1
 | .error _=>True
theorem Ln {n:Nat}(hn:n≤s.length):n≤(aY fx s n).2.2.1∧(aY fx s n).2.2.1≤s.length:=by
 unfold aY
 have hle:=fU (fx:=fx) hn
 have hle2:=fU (fx:=fx) hle
 have hst:expStart fx s n≤s.length:=by unfold expStart;split<;>assumption
 have hst2:n≤expStart fx s n:=by
  have h1:=nx (fx:=fx) (s:=s) (n:=n)
  have h2:=nx (fx:=fx) (s:=s) (n:=atE fx s n)
  unfold expStart;split<;>omega
 split
 ·have h1:=lC (fx:=fx) (s:=s) (p:=ay) (n:=expStart fx s n)
  have h2:=gX (fx:=fx) (p:=ay) hst
  simp only
  omega
 ·simp only;omega
theorem LF {whole part digits:List UInt8}{letter:UInt8}{ok:Bool}{e:Nat}{q:Tok×Nat}(h:e7 whole part digits letter ok e= .ok q):q.2=e:=by
 unfold e7 at h
 split at h
 ·cases h
 ·injection h with h
  rw[←h]
theorem BY {n:Nat}{c:UInt8}(h:s[n]? =some c)(hc:ay c=true∨c=46):FK s n (noK (db fx s n)):=by
 have hn:=fE h
 have h32:c≠32:=by
  rintro rfl
  rcases hc with h1|h1
  ·exact absurd h1 (by decide)
  ·exact absurd h1 (by decide)
 have h0:c≠0:=by
  rintro rfl
  rcases hc with h1|h1
  ·exact absurd h1 (by decide)
  ·exact absurd h1 (by decide)
 obtain⟨ha,hb⟩:=nR (fx:=fx) h h32
 have hle:=gX (fx:=fx) (p:=ay) (Nat.le_of_lt hn)
 have hle2:=fU (fx:=fx) hle
 have hle3:=gX (fx:=fx) (p:=ay) hle2
 have hend:numEnd fx s n≤s.length:=by unfold numEnd;split<;>assumption
 have hgt:n<numEnd fx s n:=by
  have g1:=lC (fx:=fx) (p:=ay) (s:=s) (n:=n)
  have g2:=nx (fx:=fx) (s:=s) (n:=runE fx ay s n)
  have g3:=lC (fx:=fx) (p:=ay) (s:=s) (n:=atE fx s (runE fx ay s n))
  rcases hc with hd|hd
  ·have:=Dv (fx:=fx) h h32 h0 hd
   unfold numEnd;split<;>omega
  ·obtain⟨e1,e2⟩:=o5 (fx:=fx) (s:=s) (p:=ay) (n:=n) (by rw[ha,hd];decide)
   have hdot:cS fx s n=true:=by
    unfold cS bT
    rw[e2,ha,e1,hd]
    simp
   unfold numEnd
   rw[if_pos hdot,e2,hb]
   rw[e2,hb]at g3
   omega
 have hx:=Ln (fx:=fx) (s:=s) hend
 unfold db
 simp only
 split
 ·cases cx (bT fx s n)with
  |ok t=>exact⟨hgt,hend,by simp;omega⟩
  |error e=>trivial
 ·cases hr:e7 (bT fx s n) (eC fx s n) (aY fx s (numEnd fx s n)).2.1 (aY fx s (numEnd fx s n)).1 (aY fx s (numEnd fx s n)).2.2.2 (if(aY fx s (numEnd fx s n)).2.2.2 then(aY fx s (numEnd fx s n)).2.2.1 else numEnd fx s n)with
  |error e=>trivial
  |ok q=>
   have:=LF hr
   refine⟨?_,?_,?_⟩
   ·show n<q.2
    rw[this];split<;>omega
   ·show q.2≤s.length
    rw[this];split<;>omega
   ·show 0+n≤q.2
    rw[this];split<;>omega
theorem BQ {n:Nat}(hn:n<s.length):FK s n (dA s n):=by
 unfold dA dP
 cases hq:ct ((s[n]?).getD 0) (s.drop (n+1))with
 |none=>trivial
 |some x=>
  obtain⟨t,k⟩:=x
  have:=mG _ _ (Nat.le_refl _) t k hq
  rw[List.length_drop]at this
  simp only
  split
  ·rename_i q heq
   split at heq
   ·cases heq
   ·injection heq with heq
    subst heq
    refine⟨?_,?_,?_⟩
    ·show n<n+1+k
     omega
    ·show n+1+k≤s.length
     omega
    ·show (List.range' n (n+1+k-n)).length+n≤n+1+k
     simp;omega
  ·trivial
theorem NY {n:Nat}{c:UInt8}(h:s[n]? =some c)(hc:c≠32):FK s n (noK (ez fx s n)):=by
 have hn:=fE h
 obtain⟨ha,hb⟩:=nR (fx:=fx) h hc
 have g1:=nx (fx:=fx) (s:=s) (n:=n+1)
 have g2:=fU (fx:=fx) (s:=s) (n:=n+1) hn
 unfold ez
 simp only[hb]
 split
 ·exact⟨by show n<atE fx s (n+1);omega,g2,by show 0+n≤atE fx s (n+1);omega⟩
 ·split
  ·exact⟨by show n<atE fx s (n+1);omega,g2,by show 0+n≤atE fx s (n+1);omega⟩
  ·split
   ·exact⟨by show n<n+1;omega,hn,by show 0+n≤n+1;omega⟩
   ·split
    ·exact⟨by show n<n+1;omega,hn,by show 0+n≤n+1;omega⟩
    ·trivial
theorem uA {n:Nat}{c:UInt8}(h:s[n]? =some c)(hc:c≠32):FK s n (d6 fx s out n):=by
 have hn:=fE h
 obtain⟨ha,hb⟩:=nR (fx:=fx) h hc
 unfold d6
 rw[h,Option.getD_some]
 split
 ·rename_i hh
  simp only[Bool.and_eq_true,decide_eq_true_eq]at hh
  obtain⟨_,hN⟩:=hh
  unfold m3
  split
  ·trivial
  ·rename_i hlen
   have g1:=lC (fx:=fx) (p:=ay) (s:=s) (n:=n)
   have g2:=nx (fx:=fx) (s:=s) (n:=runE fx ay s n)
   have g3:runE fx ay s n≤holE fx s n:=g2
   have g4:=hN.2.1
   refine⟨?_,?_,?_⟩
   ·show n<holE fx s n+(fg fx s n).toNat
    omega
   ·show holE fx s n+(fg fx s n).toNat≤s.length
    omega
   ·show (List.range' (holE fx s n) (fg fx s n).toNat).length+n≤holE fx s n+(fg fx s n).toNat
    simp;omega
 ·unfold dO
  split
  ·rename_i hl
   have h0:c≠0:=by rintro rfl;exact absurd hl (by decide)
   have hp:bI c=true:=by unfold bI;rw[hl];rfl
   have g1:=Dv (fx:=fx) h hc h0 hp
   have g2:=gX (fx:=fx) (p:=bI) (Nat.le_of_lt hn)
   split
   ·trivial
   ·exact⟨by show n<runE fx bI s n;omega,g2,by show 0+n≤runE fx bI s n;omega⟩
  ·split
   ·rename_i hd
    refine BY h ?_
    rw[Bool.or_eq_true,Bool.and_eq_true,decide_eq_true_eq]at hd
    rcases hd with hd|hd
    ·exact Or.inl hd
    ·exact Or.inr hd.1
   ·split
    ·rename_i h46
     subst h46
     split
     ·have e:ck fx s n=(c8 fx s n,dotEnd fx s n,k9 fx s n):=by unfold ck;rw[if_pos ha]
      rw[e]
      have g1:=lC (fx:=fx) (p:=bg) (s:=s) (n:=atE fx s n)
      have g2:=nx (fx:=fx) (s:=s) (n:=runE fx bg s (atE fx s n))
      have g3:=fU (fx:=fx) (Nat.le_of_lt hn)
      have g4:=gX (fx:=fx) (p:=bg) g3
      have g5:=fU (fx:=fx) g4
      have g6:runE fx bg s (atE fx s n)≤dotEnd fx s n:=g2
      rw[hb]at g1 g6
      exact⟨by show n<dotEnd fx s n;omega,g5,by show 0+n≤dotEnd fx s n;omega⟩
     ·trivial
    ·split
     ·exact BQ hn
     ·exact NY h hc
def cD (fx:Bool)(s:List UInt8):Nat→Nat→List Tok→List Nat→Option (Nat×Int)×List Tok×List Nat
 |0,_,out,kept=>(none,out,kept)
 |k+1,n,out,kept=>
  if s.length≤n+ba (s.drop n)then(none,out,kept)
  else match d6 fx s out (n+ba (s.drop n))with
   | .error e=>(some (n+ba (s.drop n),e),out,kept)
   | .ok q=>cD fx s k q.2.1 (out++[q.1]) (kept++q.2.2)
def K6 (b:Mu)(s:List UInt8)(fx:Bool):Option (Nat×Int)×List Tok×List Nat→St
 |(none,out,kept)=>qL 0 0 (scM b s fx out kept)
 |(some (n,e),out,kept)=>qU (gk e) (n:Int) 0 (scM b s fx out kept)
theorem Ld {l i:Nat}{r:List LV}(h:Sc μ l i s fx r)(hs:s.length≤1000000): ∀(k n:Nat),n+k=s.length→we (ev E) l i (n:Int) 0 μ=some (k7 l i ((n+ba (s.drop n):Nat):Int) 0 μ):=by
 intro k
 induction k with
 |zero=>
  intro n hk
  refine bb ?_
  rw[wy,h]
  simp only[aa,eH,cL,ah]
  have:List.drop n s=[]:=List.drop_eq_nil_of_le (by omega)
  have h1:decide ((n:Int)<(s.length:Int))=false:=by simp;omega
  rw[h1,this]
  simp[ba]
 |succ k ih=>
  intro n hk
  refine bb ?_
  rw[wy,h]
  simp only[aa,eH,cL,ah]
  have h1:decide ((n:Int)<(s.length:Int))=true:=by simp;omega
  have hn:n<s.length:=by omega
  rw[h1,gu,List.getElem?_eq_getElem hn,aa]
  have hd:List.drop n s=s[n]::List.drop (n+1) s:=List.drop_eq_getElem_cons hn
  have e:IntKind.wrap .i64 ((n:Int)+1)=((n+1:Nat):Int):=by rw[bc (by omega) (by omega)];omega
  have e32: ∀c:UInt8,decide ((c.toNat:Int)=32)=decide (c=32):=fun c=>bG (k:=32) (by omega)
  rw[e,ih (n+1) (by omega),e32,hd,ba]
  by_cases hc:s[n]=32
  ·simp only[hc,decide_true,cond_true,if_true]
   congr 2
   omega
  ·simp only[hc,decide_false,cond_false,cond_true,if_false]
   rfl
theorem ui {n:Nat}(h:n+ba (s.drop n)<s.length): ∃c,s[n+ba (s.drop n)]? =some c∧c≠32:=by
 refine⟨s[n+ba (s.drop n)],List.getElem?_eq_getElem h,?_⟩
 have hd:=List.drop_eq_getElem_cons h
 refine m8 (s.drop n) _ (s.drop (n+ba (s.drop n)+1)) ?_
 rw[List.drop_drop]
 exact hd
theorem NU (hs:s.length≤200000): ∀(k n:Nat) (out:List Tok) (kept:List Nat),s.length<n+k→n≤s.length→out.length≤n→kept.length≤n→
  zq (ev E) b.length 0 (n:Int) 0 (scM b s fx out kept)=some (K6 b s fx (cD fx s k n out kept)):=by
 intro k
 induction k with
 |zero=>intro n out kept hk hn ho hq;omega
 |succ k ih=>
  intro n out kept hk hn ho hq
  have h:=j2 (b:=b) (s:=s) (fx:=fx) (out:=out) (kept:=kept)
  have hb:=mY (s.drop n)
  rw[List.length_drop]at hb
  refine bb ?_
  rw[KD,Ld h (by omega) (s.length-n) n (by omega),aa,Az,h,eH,cL,aa,ah,aa]
  unfold cD
  by_cases hm:s.length≤n+ba (s.drop n)
  ·have:decide ((s.length:Int)≤((n+ba (s.drop n):Nat):Int))=true:=by simp;omega
   rw[this,cond_true,if_pos hm]
   rfl
  ·have:decide ((s.length:Int)≤((n+ba (s.drop n):Nat):Int))=false:=by simp;omega
   rw[this,cond_false,if_neg hm]
   obtain⟨c,hc1,hc2⟩:=ui (s:=s) (n:=n) (by omega)
   have hf:=uA (fx:=fx) (out:=out) hc1 hc2
   obtain⟨m,hmd⟩: ∃m,m=n+ba (s.drop n):=⟨_,rfl⟩
   rw[←hmd]at hm hf ⊢
   cases ht:d6 fx s out m with
   |error e=>
    have hG:AE (ev E) b.length 0 (m:Int) 0 (scM b s fx out kept)=some (rc (gk e) (m:Int) 0 (scM b s fx out kept)):=by
     refine aO ?_
     rw[ym,ID hs (by omega) (by omega) (by omega),ht]
     rfl
    rw[hG,aa,Bj]
    rfl
   |ok q=>
    rw[ht]at hf
    obtain⟨f1,f2,f3⟩:=hf
    have hG:AE (ev E) b.length 0 (m:Int) 0 (scM b s fx out kept)=some (qk b.length 0 (q.2.1:Int) 0 (scM b s fx (out++[q.1]) (kept++q.2.2))):=by
     refine aO ?_
     rw[ym,ID hs (by omega) (by omega) (by omega),ht]
     simp only[vV,ad,ao,aa,aj,am,ah,ae,ak,aw,cond_true,cond_false,Bool.not_true,Bool.not_false,ar,au,aq,dG]
     unfold scM
     rw[nu]
     unfold scO
     rw[PI,aa,Jd,aa]
     have ha:[CV.agg [CV.int .i64 q.1.kind,CV.int .i64 q.1.type,CV.str q.1.text]]=aQ [q.1]:=rfl
     have hc:CV.agg [CV.int .i64 q.1.kind,CV.int .i64 q.1.type,CV.str q.1.text]=q.1.cv:=rfl
     rw[ha,vp (by simp;omega),aw]
     have hbl:bO (b.length+1) (aQ out++aQ [q.1])=true:=by
      have:aQ out++aQ [q.1]=aQ (out++[q.1]):=by simp[aQ]
      rw[this];exact na _
     rw[hbl,aw,nr,nu,O7,aa,nr]
     have e2:aQ [q.1]=[q.1.cv]:=rfl
     rw[e2,OC]
    rw[hG,aa,BD,ih q.2.1 _ _ (by omega) f2 (by simp;omega) (by simp;omega)]
theorem vN (b:Mu)(x:Lam):gO (b++[x])=some (b,x):=by simp[gO]
theorem JS {e:Int}:bE E.P 25 (.cells [LV.int .i64 (0:Int)]) 0 (LV.int .i64 e)=some (.cells [LV.int .i64 e]):=by kernel_rfl
theorem zW {e:Int}:bv E.P 25 (aF [Ob.cells [LV.int .i64 e]] 0) 0=some (LV.int .i64 e):=by kernel_rfl
def bU:Option (Nat×Int)→Nat×Int
 |none=>(0,0)
 |some q=>q
theorem Pd (hs:s.length≤200000){r:Option (Nat×Int)×List Tok×List Nat}(hr:cD fx s (s.length+1) 0 [] []=r):
  (ev E).call 118 [LV.cv (CV.ref b.length 0 0)] (scM b s fx [] [])=some (.ret (.ltup [LV.int .i64 ((bU r.1).1:Int),LV.int .i64 (bU r.1).2]) (scM b s fx r.2.1 r.2.2)):=by
 refine aK ?_
 have hl:=NU (b:=b) (fx:=fx) hs (s.length+1) 0 [] [] (by omega) (by omega) (by simp) (by simp)
 have e0:((0:Nat):Int)=0:=rfl
 rw[hr,e0]at hl
 rw[PO,hl,aa]
 obtain⟨x,o,q⟩:=r
 cases x with
 |none=>
  simp only[K6]
  have hd:(ev E).dcall 147 none [LV.cv (CV.ref (scM b s fx o q).length 0 0)] (scM b s fx o q++[[Ob.cells [LV.int .i64 0]]])=some (scM b s fx o q++[[Ob.cells [LV.int .i64 0]]]):=yC (by rw[MD])
  rw[AU,hd,aa,vN,aa]
  simp only[zW,aa,bU]
  rfl
 |some w=>
  obtain⟨n,e⟩:=w
  simp only[K6]
  have hd:(ev E).dcall 147 (some (gk e)) [LV.cv (CV.ref (scM b s fx o q).length 0 0)] (scM b s fx o q++[[Ob.cells [LV.int .i64 0]]])=some (scM b s fx o q++[[Ob.cells [LV.int .i64 e]]]):=by
   refine yC ?_
   unfold gk
   rw[Nw,nu,JS,aa,nr]
  rw[Bz,hd,aa,vN,aa]
  simp only[zW,aa,bU]
  rfl
def dC (s:List UInt8):Bool:= !(s.any fun b=>decide (b.toNat<32)||decide (126<b.toNat))
def bC (s:List UInt8):Int:=if 1320<s.length then 8 else if dC s then 0 else 3
theorem Fe {g:FuncId}{p:UInt8→Bool}(hg:kx g=some p):(ev E).call 43 [LV.str s,LV.cv (CV.clo g [])] μ=some (.ret (LV.bool (s.any p)) μ):=by
 refine du (g:=fX kx) (by kernel_rfl) ?_
 simp only[fX,aj,aa,ak,ah,hg]
theorem PW:(ev E).call 85 [LV.str s] μ=some (.ret (LV.bool (dC s)) μ):=by
 refine aK ?_
 rw[Q7,Fe (g:=122) rfl]
 simp only[ad,ao,aa,aj,am,ah,ae,ak,aw,cond_true,cond_false,Bool.not_true,Bool.not_false,ar,au,aq]
 rfl
theorem Pe:(ev E).call 117 [LV.str s] μ=some (.ret (LV.int .i64 (bC s)) μ):=by
 refine aK ?_
 rw[Pt,PW]
 simp only[ad,ao,aa,aj,am,ah,ae,ak,aw,cond_true,cond_false,Bool.not_true,Bool.not_false,ar,au,aq]
 unfold bC
 by_cases h:1320<s.length
 ·have:decide ((1320:Int)<(s.length:Int))=true:=by simp;omega
  rw[this,if_pos h]
  rfl
 ·have:decide ((1320:Int)<(s.length:Int))=false:=by simp;omega
  rw[this,if_neg h]
  cases dC s<;>rfl
structure Scan where
 toks:List Tok
 kept:List Nat
 n:Nat
 e:Int
def bD (fx:Bool)(s:List UInt8):Scan:=
 if bC s=0 then
  let r:=cD fx s (s.length+1) 0 [] []
  if(bU r.1).2=0 then(if 300<r.2.1.length then⟨r.2.1,r.2.2,0,8⟩else⟨r.2.1,r.2.2,r.2.1.length,0⟩)else⟨r.2.1,r.2.2,(bU r.1).1,(bU r.1).2⟩
 else⟨[],[],0,bC s⟩
def mw (fx:Bool)(s:List UInt8):List CV:=if bC s=0 then [CV.str s,CV.bool fx,CV.sl (aQ (bD fx s).toks),CV.sl (bu (bD fx s).kept)]else [CV.str s,CV.bool fx,CV.v (.slice none 0 0),CV.v (.slice none 0 0)]
theorem O8 {α:Type}{k:Lam→Option α}:Fj [(0,[0,0,1,1])] [scO s fx out kept] k=k [.cells [LV.str s,LV.bool fx,.osl (aQ out),.osl (bu kept)]]:=by
 have h1:=Jd (out:=out)
 have h2:=IA (kept:=kept)
 unfold scO
 simp only[Fj,aF,List.getElem?_cons_zero,fq,xU,h1,h2,aa,List.set_cons_zero]
theorem ON {n:Nat}:below n (CV.view [CV.str s,CV.bool fx,CV.sl (aQ out),CV.sl (bu kept)])=true:=by
 simp only[below,bO]
 rw[na,m9]
theorem Pu (hs:s.length≤200000):(ev E).call 78 [LV.str s,LV.bool fx] μ=some (.ret (.ltup [LV.cv (CV.view (mw fx s)),LV.int .i64 ((bD fx s).n:Int),LV.int .i64 (bD fx s).e]) μ):=by
 refine aK ?_
 rw[QM,Pe]
 simp only[ad,ao,aa,aj,am,ah,ae,ak,aw,cond_true,cond_false,Bool.not_true,Bool.not_false,ar,au,aq]
 by_cases ht:bC s=0
 ·have:decide (bC s=0)=true:=by simp[ht]
  rw[this,Bool.not_true,cond_false]
  obtain⟨r,hr⟩: ∃r,cD fx s (s.length+1) 0 [] []=r:=⟨_,rfl⟩
  have hsc:bD fx s=if(bU r.1).2=0 then(if 300<r.2.1.length then⟨r.2.1,r.2.2,0,8⟩else⟨r.2.1,r.2.2,r.2.1.length,0⟩)else⟨r.2.1,r.2.2,(bU r.1).1,(bU r.1).2⟩:=by
   unfold bD;rw[if_pos ht,hr]
  have htk:(bD fx s).toks=r.2.1∧(bD fx s).kept=r.2.2:=by
   rw[hsc];split
   ·split<;>exact⟨rfl,rfl⟩
   ·exact⟨rfl,rfl⟩
  have hC:mw fx s=[CV.str s,CV.bool fx,CV.sl (aQ r.2.1),CV.sl (bu r.2.2)]:=by unfold mw;rw[if_pos ht,htk.1,htk.2]
  have hl:=Pd (b:=μ) (fx:=fx) hs hr
  have hlen:(aQ r.2.1).length=r.2.1.length:=by simp[aQ]
  have h5:LQ (ev E) s fx μ=some (if(bU r.1).2=0∧ ¬300<r.2.1.length then tG s fx (aQ r.2.1) (bu r.2.2) ((bD fx s).n:Int) (bD fx s).e .dead μ else oF s fx (aQ r.2.1) (bu r.2.2) ((bD fx s).n:Int) (bD fx s).e μ):=by
   refine aO ?_
   have e0:μ++[[Ob.cells [LV.str s,LV.bool fx,LV.cv (CV.v (.slice none 0 0)),LV.cv (CV.v (.slice none 0 0))]]]=scM μ s fx [] []:=rfl
   rw[MP,e0,hl]
   simp only[ad,ao,aa,aj,am,ah,ae,ak,aw,cond_true,cond_false,Bool.not_true,Bool.not_false,ar,au,aq]
   unfold scM
   rw[vN,aa,O8]
   by_cases he:(bU r.1).2=0
   ·have h6:ET (ev E) ((bU r.1).1:Int) (bU r.1).2 [.cells [LV.str s,LV.bool fx,.osl (aQ r.2.1),.osl (bu r.2.2)]] μ=some (tr s fx (aQ r.2.1) (bu r.2.2) μ):=by
     refine aO ?_
     have:decide ((bU r.1).2=0)=true:=by simp[he]
     rw[C1,this]
     rfl
    rw[h6,aa,EN]
    rw[hsc,if_pos he]
    by_cases h3:300<r.2.1.length
    ·have h8:EJ (ev E) [.cells [LV.str s,LV.bool fx,.osl (aQ r.2.1),.osl (bu r.2.2)]] μ=some (tw s fx (aQ r.2.1) (bu r.2.2) 0 8 μ):=by
      refine aO ?_
      have:decide ((300:Int)<((aQ r.2.1).length:Int))=true:=by rw[hlen];simp;omega
      rw[Cq,this]
      rfl
     rw[h8,aa,EI,if_pos h3,if_neg (by simp[h3])]
     rfl
    ·have h8:EJ (ev E) [.cells [LV.str s,LV.bool fx,.osl (aQ r.2.1),.osl (bu r.2.2)]] μ=some (tj s fx (aQ r.2.1) (bu r.2.2) (r.2.1.length:Int) 0 .dead μ):=by
      refine aO ?_
      have:decide ((300:Int)<((aQ r.2.1).length:Int))=false:=by rw[hlen];simp;omega
      have h10:HP (ev E) s fx (aQ r.2.1) (bu r.2.2) [Ob.dead] μ=some (rn s fx (aQ r.2.1) (bu r.2.2) (r.2.1.length:Int) 0 .dead μ):=by
       refine aO ?_
       rw[Ky,hlen]
      rw[Cq,this,cond_false,h10,aa,Bc]
     rw[h8,aa,FE,if_neg h3,if_pos ⟨he,h3⟩]
   ·have h6:ET (ev E) ((bU r.1).1:Int) (bU r.1).2 [.cells [LV.str s,LV.bool fx,.osl (aQ r.2.1),.osl (bu r.2.2)]] μ=some (sW s fx (aQ r.2.1) (bu r.2.2) ((bU r.1).1:Int) (bU r.1).2 μ):=by
     refine aO ?_
     have:decide ((bU r.1).2=0)=false:=by simp[he]
     rw[C1,this]
     rfl
    rw[h6,aa,Ex,hsc,if_neg he,if_neg (by simp[he])]
  rw[h5,aa]
  have:e8 μ.length (LV.ltup [LV.cv (CV.view [CV.str s,CV.bool fx,CV.sl (aQ r.2.1),CV.sl (bu r.2.2)]),LV.int .i64 ((bD fx s).n:Int),LV.int .i64 (bD fx s).e])=true:=by
   simp only[e8,List.all_cons,kr,ON]
   rfl
  split
  ·rw[D5,this,aw,hC]
  ·rw[F2,this,aw,hC]
 ·have:decide (bC s=0)=false:=by simp[ht]
  have hC:mw fx s=[CV.str s,CV.bool fx,CV.v (.slice none 0 0),CV.v (.slice none 0 0)]:=by unfold mw;rw[if_neg ht]
  have hsc:bD fx s=⟨[],[],0,bC s⟩:=by unfold bD;rw[if_neg ht]
  rw[this,Bool.not_false,cond_true,hC,hsc]
  rfl
def ey (fx:Bool)(s:List UInt8):List Tok:=if(bD fx s).e=0 then(bD fx s).toks else []
theorem rQ (h:(bD fx s).e=0):bC s=0∧(bD fx s).n=(bD fx s).toks.length∧mw fx s=[CV.str s,CV.bool fx,CV.sl (aQ (bD fx s).toks),CV.sl (bu (bD fx s).kept)]:=by
 by_cases ht:bC s=0
 ·refine⟨ht,?_,by unfold mw;rw[if_pos ht]⟩
  unfold bD at h ⊢
  rw[if_pos ht]at h ⊢
  simp only at h ⊢
  by_cases he:(bU (cD fx s (s.length+1) 0 [] []).1).2=0
  ·rw[if_pos he]at h ⊢
   by_cases h3:300<(cD fx s (s.length+1) 0 [] []).2.1.length
   ·rw[if_pos h3]at h;exact absurd h (by simp)
   ·rw[if_neg h3]
  ·rw[if_neg he]at h
   exact absurd h he
 ·unfold bD at h
  rw[if_neg ht]at h
  exact absurd h ht
theorem Fs {l:List CV}:nf (LV.cv (CV.view l))=some false:=rfl
theorem Hd {l:List CV}:jB (LV.cv (rO (CV.view l)))=some l:=rfl
theorem Kh {t:List UInt8}:aI (LV.cv (CV.str t))=some t:=rfl
theorem HW {t:Bool}:aN (LV.cv (CV.bool t))=some t:=rfl
def eR (s:List UInt8):Option Tok:=if(bD false s).e=0∧(bD false s).n=1 then(bD false s).toks[0]? else none
def O1:Option Tok→List LV
 |some t=>[.cv t.cv,LV.bool true]
 |none=>[.cv Mr.cv,LV.bool false]
theorem PA (hs:s.length≤200000):(ev E).call 46 [LV.str s] μ=some (.ret (.ltup (O1 (eR s))) μ):=by
 refine aK ?_
 rw[Qx,Pu hs]
 simp only[ad,ao,aa,aj,am,ah,ae,ak,aw,cond_true,cond_false,Bool.not_true,Bool.not_false,ar,au,aq,iQ]
 unfold eR
 by_cases he:(bD false s).e=0
 ·have h1:decide ((bD false s).e=0)=true:=by simp[he]
  rw[h1,Bool.not_true,cond_false]
  by_cases hn:(bD false s).n=1
  ·have h2:decide (((bD false s).n:Int)=1)=true:=by simp[hn]
   obtain⟨_,hl,hC⟩:=rQ he
   rw[h2,Bool.not_true,cond_false,if_pos ⟨he,hn⟩]
   obtain⟨t,ht⟩: ∃t,(bD false s).toks=[t]:=by
    rw[hn]at hl
    exact List.length_eq_one_iff.1 hl.symm
   have hG:L4 (ev E) (CV.view (mw false s)) 0 0 [] μ=some (tE true t.kind t.type t.text μ):=by
    refine aO ?_
    rw[NT,Fs,aa,Bool.not_false,aw,Hd,aa,hC,ht]
    simp only[ad,ao,aa,aj,am,ah,ae,ak,aw,cond_true,cond_false,Bool.not_true,Bool.not_false,ar,au,aq,Kh,HW]
    have:dZ (aQ [t]) (0:Int)=some t.cv:=rfl
    rw[this,aa,dG]
   rw[hG,aa,Eu,ht]
   rfl
  ·have h2:decide (((bD false s).n:Int)=1)=false:=by simp;omega
   rw[h2,Bool.not_false,cond_true,if_neg (by simp[hn])]
   rfl
 ·have h1:decide ((bD false s).e=0)=false:=by simp[he]
  rw[h1,Bool.not_false,cond_true,if_neg (by simp[he])]
  rfl
end
end Go.Abs
set_option linter.unusedVariables false
set_option linter.unusedSimpArgs false
namespace Go.Abs
open Go
def Gf (a:Nat)(c:UInt8):Nat:=a*10+(c.toNat-48)
def valD (acc:Nat)(l:List UInt8):Nat:=l.foldl Gf acc
theorem gE (acc:Nat):valD acc []=acc:=rfl
theorem Hl (c:UInt8)(r:List UInt8)(acc:Nat):valD acc (c::r)=valD (Gf acc c) r:=by unfold valD;rw[List.foldl_cons]
theorem cY (c:UInt8)(r:List UInt8)(acc:Nat):valD acc (c::r)=valD (acc*10+(c.toNat-48)) r:=by rw[Hl];unfold Gf;exact Eq.refl _
theorem bN {c:UInt8}:ay c=true↔48≤c.toNat∧c.toNat≤57:=by
 unfold ay
 rw[Bool.and_eq_true,decide_eq_true_eq,decide_eq_true_eq]
theorem te (c:UInt8)(l:List UInt8): ∀(acc:Nat),valD acc (l++[c])=valD acc l*10+(c.toNat-48):=by
 induction l with
 |nil=>intro acc;rw[List.nil_append,cY,gE,gE]
 |cons d r ih=>intro acc;rw[List.cons_append,cY,cY,ih]
theorem dh: ∀(l:List UInt8) (acc:Nat),(∀b∈l,ay b=true)→acc*10^l.length≤valD acc l∧valD acc l<(acc+1)*10^l.length
 |[],acc,_=>by rw[gE,List.length_nil,Nat.pow_zero];omega
 |c::r,acc,h=>by
  have hc:=bN.1 (h c List.mem_cons_self)
  obtain⟨h1,h2⟩:=dh r (acc*10+(c.toNat-48)) (fun b hb=>h b (List.mem_cons_of_mem _ hb))
  rw[cY];simp only[List.length_cons,Nat.pow_succ]
  have e1:acc*(10^r.length*10)=(acc*10)*10^r.length:=by rw[Nat.mul_comm (10^r.length) 10,Nat.mul_assoc]
  have e2:(acc+1)*(10^r.length*10)=((acc+1)*10)*10^r.length:=by rw[Nat.mul_comm (10^r.length) 10,Nat.mul_assoc]
  rw[e1,e2]
  refine⟨Nat.le_trans (Nat.mul_le_mul_right _ (by omega)) h1,Nat.lt_of_lt_of_le h2 (Nat.mul_le_mul_right _ (by omega))⟩
theorem ru: ∀(l:List UInt8) (acc:Nat),valD acc l=acc*10^l.length+valD 0 l
 |[],acc=>by simp[gE]
 |c::r,acc=>by
  rw[cY];simp only[List.length_cons,Nat.pow_succ]
  rw[cY c r 0,ru r (acc*10+(c.toNat-48)),ru r (0*10+(c.toNat-48)),Nat.add_mul,Nat.zero_mul,Nat.zero_add,Nat.add_assoc]
  congr 1
  rw[Nat.mul_comm (10^r.length) 10,Nat.mul_assoc]
theorem rb: ∀(l:List UInt8) (acc:Nat),(∀b∈l,ay b=true)→(acc+1)*10^l.length≤10000000000→Lib.parseUint10 acc l= .ok (valD acc l)
 |[],acc,_,_=>rfl
 |c::r,acc,h,hb=>by
  have hc:=bN.1 (h c List.mem_cons_self)
  have hp:1≤10^r.length:=Nat.pow_pos (by omega)
  have e2:(acc+1)*10^(c::r).length=((acc+1)*10)*10^r.length:=by simp only[List.length_cons,Nat.pow_succ];rw[Nat.mul_comm (10^r.length) 10,Nat.mul_assoc]
  rw[e2]at hb
  have h3:(acc+1)*10≤10000000000:=Nat.le_trans (Nat.le_mul_of_pos_right _ hp) hb
  simp only[Lib.parseUint10,cY]
  rw[if_pos hc,if_neg (by omega),if_neg (by omega)]
  exact rb r _ (fun b hb=>h b (List.mem_cons_of_mem _ hb)) (Nat.le_trans (Nat.mul_le_mul_right _ (by omega)) hb)
theorem f7 {l:List UInt8}(h: ∀b∈l,ay b=true)(h1:l≠[])(h2:l.length≤10):Lib.atoiAll l= .ok (valD 0 l:Nat):=by
 cases l with
 |nil=>exact absurd rfl h1
 |cons c r=>
  have hc:=bN.1 (h c List.mem_cons_self)
  have hb:(0+1)*10^(c::r).length≤10000000000:=by
   have:10^(c::r).length≤10^10:=Nat.pow_le_pow_right (by omega) h2
   omega
  have hp:=rb (c::r) 0 h hb
  have hlt:=(dh (c::r) 0 h).2
  rw[Lib.atoiAll_plain c r (by omega) (by omega)]
  unfold Lib.parseMag
  rw[if_neg (by simp),hp]
  simp only[Lib.signless]
  rw[if_neg (by omega)]
theorem ua {l:List UInt8}(h: ∀b∈l,ay b=true)(h1:l≠[])(h2:l.length≤10):Lib.atoiAll (45::l)= .ok (-(valD 0 l:Nat):Int):=by
 have hb:(0+1)*10^l.length≤10000000000:=by
  have:10^l.length≤10^10:=Nat.pow_le_pow_right (by omega) h2
  omega
 have hp:=rb l 0 h hb
 have hlt:=(dh l 0 h).2
 rw[Lib.atoiAll_minus]
 unfold Lib.parseMag
 rw[if_neg h1,hp]
 simp only[Lib.signed]
 rw[if_neg (by omega)]
def bx:List UInt8→List UInt8
 |[]=>[]
 |[c]=>[c]
 |c::d::r=>if c=48 then bx (d::r)else c::d::r
theorem pR: ∀(l:List UInt8),valD 0 (bx l)=valD 0 l
 |[]=>rfl
 |[c]=>rfl
 |c::d::r=>by
  unfold bx
  split
  ·rename_i hc
   rw[pR (d::r)]
   subst hc
   rfl
  ·rfl
theorem kG: ∀(l:List UInt8),∀b∈bx l,b∈l
 |[],b,hb=>hb
 |[c],b,hb=>hb
 |c::d::r,b,hb=>by
  unfold bx at hb
  split at hb
  ·exact List.mem_cons_of_mem _ (kG (d::r) b hb)
  ·exact hb
theorem mz: ∀(l:List UInt8),(bx l).length≤l.length
 |[]=>Nat.le_refl _
 |[c]=>Nat.le_refl _
 |c::d::r=>by
  unfold bx
  split
  ·have:=mz (d::r)
   simp only[List.length_cons]at this ⊢
   omega
  ·exact Nat.le_refl _
def jd (l:List UInt8):Prop:=l.length=1∨ ∃c r,l=c::r∧c≠48
theorem lg: ∀(l:List UInt8),l≠[]→jd (bx l)
 |[],h=>absurd rfl h
 |[c],_=>Or.inl rfl
 |c::d::r,_=>by
  unfold bx
  split
  ·exact lg (d::r) (by simp)
  ·rename_i hc
   exact Or.inr ⟨c,_,rfl,hc⟩
theorem JZ {c:UInt8}{r:List UInt8}(h: ∀b∈c::r,ay b=true)(hc:c≠48):1≤valD 0 (c::r):=by
 have h1:=bN.1 (h c List.mem_cons_self)
 have h2:=(dh r (0*10+(c.toNat-48)) (fun b hb=>h b (List.mem_cons_of_mem _ hb))).1
 have hp:1≤10^r.length:=Nat.pow_pos (by omega)
 have h3:c.toNat≠48:=fun e=>hc (UInt8.toNat.inj (by rw[e];rfl))
 have h4:1≤(0*10+(c.toNat-48))*10^r.length:=Nat.one_le_iff_ne_zero.2 (Nat.mul_ne_zero (by omega) (by omega))
 simp only[cY,gE]
 omega
theorem wa {u d:Nat}(hu:1≤u)(hd:d≤9):Lib.decDigits (u*10+d)=Lib.decDigits u++[UInt8.ofNat (48+d)]:=by
 rw[Lib.decDigits,dif_neg (by omega)]
 have e1:(u*10+d) / 10=u:=by omega
 have e2:(u*10+d) % 10=d:=by omega
 rw[e1,e2]
theorem wq {c:UInt8}(h:ay c=true):UInt8.ofNat (48+(c.toNat-48))=c:=by
 have h1:=bN.1 h
 have:48+(c.toNat-48)=c.toNat:=by omega
 rw[this];simp
theorem CX: ∀(n:Nat) (l:List UInt8),l.length=n→(∀b∈l,ay b=true)→jd l→Lib.decDigits (valD 0 l)=l:=by
 intro n
 induction n with
 |zero=>
  intro l hn _ hl
  rcases hl with h|⟨c,r,rfl,_⟩
  ·omega
  ·simp at hn
 |succ n ih=>
  intro l hn hd hl
  have hne:l≠[]:=by intro h;subst h;simp at hn
  have hsp:=List.dropLast_concat_getLast hne
  have hc:ay (l.getLast hne)=true:=hd _ (List.getLast_mem hne)
  have hc':=bN.1 hc
  by_cases h0:l.dropLast=[]
  ·rw[h0,List.nil_append]at hsp
   rw[←hsp]
   simp only[cY,gE]
   rw[Lib.decDigits_one (by omega),Nat.zero_mul,Nat.zero_add,wq hc]
  ·rcases hl with h|⟨c,r,e,hne2⟩
   ·exfalso
    apply h0
    apply List.eq_nil_of_length_eq_zero
    rw[List.length_dropLast]
    omega
   ·have hdl: ∀b∈l.dropLast,ay b=true:=fun b hb=>hd b (List.dropLast_subset _ hb)
    have hll: ∃r',l.dropLast=c::r':=by
     rw[e]at h0 ⊢
     cases r with
     |nil=>simp at h0
     |cons d r=>exact⟨_,rfl⟩
    obtain⟨r',hr'⟩:=hll
    have hp:1≤valD 0 l.dropLast:=by rw[hr']at hdl ⊢; exact JZ hdl hne2
    have:=ih l.dropLast (by rw[List.length_dropLast];omega) hdl (Or.inr ⟨c,r',hr',hne2⟩)
    rw[←hsp,te,wa hp (by omega),this,wq hc]
theorem La {l:List UInt8}(h: ∀b∈l,ay b=true)(h1:l≠[]):Lib.itoa (valD 0 l:Nat)=bx l:=by
 unfold Lib.itoa
 rw[if_neg (by omega)]
 have e:((valD 0 l:Nat):Int).toNat=valD 0 (bx l):=by rw[pR];omega
 rw[e]
 exact CX _ _ rfl (fun b hb=>h b (kG l b hb)) (lg l h1)
end Go.Abs
set_option linter.unusedVariables false
set_option linter.unusedSimpArgs false
set_option maxRecDepth 100000
namespace Go.Abs
open Go Go.Proofs
section
variable {s:List UInt8}{n:Nat}
theorem cg:atC false s n=(s[n]?).getD 0:=rfl
theorem dp:atE false s n=if n<s.length then n+1 else n:=rfl
theorem qj {p:UInt8→Bool}(hp:p 0=false): ∀(l:List UInt8),eu false p l 0=(l.takeWhile p,(l.takeWhile p).length)
 |[]=>rfl
 |c::r=>by
  have ih:=qj hp r
  unfold eu
  rw[ih]
  by_cases h0:c=0
  ·subst h0
   simp[hp]
  ·have h1:(c != 0)=true:=by simp[h0]
   cases hc:p c
   ·simp[hc]
   ·simp[hc,h1];omega
theorem gA {p:UInt8→Bool}(hp:p 0=false):cl false p s n=(s.drop n).takeWhile p:=by unfold cl;rw[qj hp]
theorem gl {p:UInt8→Bool}(hp:p 0=false):runE false p s n=n+((s.drop n).takeWhile p).length:=by unfold runE;rw[qj hp]
theorem qt:bg 0=false:=by decide
theorem nH:ay 0=false:=by decide
theorem zj:bI 0=false:=by decide
def bp (s:List UInt8)(n:Nat)(w:List UInt8):Bool:=decide (n+w.length≤s.length)&&decide (((s.drop n).take w.length).map upB=w)
def digR (s:List UInt8)(n:Nat):Nat:=((s.drop n).takeWhile ay).length
theorem jT:cl false ay s n=(s.drop n).take (digR s n)∧runE false ay s n=n+digR s n:=by
 rw[gA nH,gl nH]
 refine⟨?_,rfl⟩
 unfold digR
 exact(List.prefix_iff_eq_take.1 (List.takeWhile_prefix _))
def Hw (w:List UInt8):Prop:= ∃v,w=46::v++[46]∧ ∀b∈v,65≤b.toNat∧b.toNat≤90
theorem DT: ∀i:Fin 256,(upB (UInt8.ofNat i.val)=46→i.val=46)∧(65≤(upB (UInt8.ofNat i.val)).toNat∧(upB (UInt8.ofNat i.val)).toNat≤90→bg (UInt8.ofNat i.val)=true):=by decide
theorem Dr {c:UInt8}(h:upB c=46):c=46:=by
 have:=(DT ⟨c.toNat,c.toNat_lt⟩).1 (by simpa using h)
 exact UInt8.toNat.inj this
theorem NK {c:UInt8}(h:65≤(upB c).toNat∧(upB c).toNat≤90):bg c=true:=by
 have:=(DT ⟨c.toNat,c.toNat_lt⟩).2 (by simpa using h)
 simpa using this
theorem fS {p:UInt8→Bool}: ∀(l:List UInt8),∀c∈l.takeWhile p,p c=true
 |[],c,h=>by simp at h
 |d::r,c,h=>by
  rw[List.takeWhile_cons]at h
  split at h
  ·rename_i hd
   rcases List.mem_cons.1 h with rfl|h
   ·exact hd
   ·exact fS r c h
  ·simp at h
theorem jy {p:UInt8→Bool}{d:UInt8}(hd:p d=false): ∀(v r:List UInt8),(∀b∈v,p b=true)→(v++d::r).takeWhile p=v
 |[],r,_=>by simp[hd]
 |c::v,r,h=>by
  have hc:=h c List.mem_cons_self
  rw[List.cons_append,List.takeWhile_cons,hc]
  simp only[if_true]
  rw[jy hd v r (fun b hb=>h b (List.mem_cons_of_mem _ hb))]
theorem wW {v w:List UInt8}: ∀{l:List UInt8},l.map upB=v++w→ ∃a b,l=a++b∧a.map upB=v∧b.map upB=w:=by
 intro l h
 obtain⟨a,b,e,h1,h2⟩:=List.map_eq_append_iff.1 h
 exact⟨a,b,e,h1,h2⟩
theorem fR {w:List UInt8}(hw:Hw w)(h:bp s n w=true):atC false s n=46∧c8 false s n=w∧atC false s (runE false bg s (atE false s n))=46∧dotEnd false s n=n+w.length:=by
 obtain⟨v,rfl,hv⟩:=hw
 simp only[bp,Bool.and_eq_true,decide_eq_true_eq]at h
 obtain⟨hlen,hm⟩:=h
 rw[List.cons_append]at hm hlen
 simp only[List.length_cons,List.length_append,List.length_nil]at hlen hm
 obtain⟨a,b,he,ha,hb⟩:=wW (v:=[46]) (w:=v++[46]) hm
 obtain⟨b1,b2,he2,hb1,hb2⟩:=wW hb
 obtain⟨x,rfl⟩: ∃x,a=[x]:=by
  cases a with
  |nil=>simp at ha
  |cons x t=>cases t with
   |nil=>exact⟨x,rfl⟩
   |cons y t=>simp at ha
 obtain⟨y,rfl⟩: ∃y,b2=[y]:=by
  cases b2 with
  |nil=>simp at hb2
  |cons x t=>cases t with
   |nil=>exact⟨x,rfl⟩
   |cons y t=>simp at hb2
 have hx:x=46:=Dr (by simpa using ha)
 have hy:y=46:=Dr (by simpa using hb2)
 subst hx hy
 have hb1l:b1.length=v.length:=by rw[←hb1,List.length_map]
 have hlet: ∀c∈b1,bg c=true:=by
  intro c hc
  exact NK (hv _ (by rw[←hb1];exact List.mem_map_of_mem hc))
 have hd:s.drop n=46::(b1++46::(s.drop (n+v.length+2))):=by
  have h1:=List.take_append_drop (v.length+(0+1)+1) (s.drop n)
  rw[he,he2,List.drop_drop]at h1
  rw[←h1]
  simp only[List.cons_append,List.nil_append,List.append_assoc]
  congr 4
 have hn:n<s.length:=by omega
 have h0:s[n]? =some 46:=by
  have:(s.drop n)[0]? =some 46:=by rw[hd];rfl
  rw[List.getElem?_drop]at this
  simpa using this
 have hd1:s.drop (n+1)=b1++46::(s.drop (n+v.length+2)):=by
  have:(s.drop n).drop 1=b1++46::(s.drop (n+v.length+2)):=by rw[hd];rfl
  rw[List.drop_drop]at this
  exact this
 have hr:(s.drop (n+1)).takeWhile bg=b1:=by rw[hd1];exact jy (by decide) _ _ hlet
 have hE:atE false s n=n+1:=by rw[dp,if_pos hn]
 have hR:runE false bg s (n+1)=n+1+v.length:=by rw[gl qt,hr,hb1l]
 have h46:s[n+1+v.length]? =some 46:=by
  have:(s.drop (n+1))[b1.length]? =some 46:=by rw[hd1,List.getElem?_append_right (Nat.le_refl _),Nat.sub_self];rfl
  rw[List.getElem?_drop,hb1l]at this
  exact this
 refine⟨by rw[cg,h0];rfl,?_,?_,?_⟩
 ·unfold c8
  rw[hE,gA qt,hr]
  have:up b1=v:=by
   unfold up
   rw[mc b1 (fun b hb=>j4 (hlet b hb)),hb1]
  rw[this];rfl
 ·rw[hE,hR,cg,h46];rfl
 ·unfold dotEnd
  rw[hE,hR,dp,if_pos (by omega)]
  simp only[List.length_append,List.length_cons,List.length_nil]
  omega
theorem xy {w:List UInt8}(h0:atC false s n=46)(h1:c8 false s n=w)(h2:atC false s (runE false bg s (atE false s n))=46):bp s n w=true:=by
 have hn:n<s.length:=by
  rcases Nat.lt_or_ge n s.length with h|h
  ·exact h
  ·rw[cg,List.getElem?_eq_none h]at h0;simp at h0
 have hE:atE false s n=n+1:=by rw[dp,if_pos hn]
 rw[hE,gl qt,cg]at h2
 have hg:s[n]? =some 46:=by
  rw[cg,List.getElem?_eq_getElem hn]at h0
  rw[List.getElem?_eq_getElem hn]
  simpa using h0
 have hd:s.drop n=46::s.drop (n+1):=by
  rw[List.drop_eq_getElem_cons hn]
  rw[List.getElem?_eq_getElem hn]at hg
  injection hg with hg
  rw[hg]
 obtain⟨v,hv⟩: ∃v,v=(s.drop (n+1)).takeWhile bg:=⟨_,rfl⟩
 rw[←hv]at h2
 have hm:n+1+v.length<s.length:=by
  rcases Nat.lt_or_ge (n+1+v.length) s.length with h|h
  ·exact h
  ·rw[List.getElem?_eq_none h]at h2;simp at h2
 have hg2:s[n+1+v.length]=46:=by
  rw[List.getElem?_eq_getElem hm]at h2
  simpa using h2
 have hp:s.drop (n+1)=v++s.drop (n+1+v.length):=by
  have h3:v <+: s.drop (n+1):=by rw[hv];exact List.takeWhile_prefix _
  have h4:=List.prefix_iff_eq_append.1 h3
  rw[List.drop_drop]at h4
  exact h4.symm
 have hd2:s.drop (n+1+v.length)=46::s.drop (n+1+v.length+1):=by rw[List.drop_eq_getElem_cons hm,hg2]
 have hlet: ∀c∈v,bg c=true:=by
  intro c hc
  rw[hv]at hc
  exact fS _ c hc
 have hT:c8 false s n=[46]++v.map upB++[46]:=by
  unfold c8
  rw[hE,gA qt,←hv]
  unfold up
  rw[mc v (fun b hb=>j4 (hlet b hb))]
 have hwl:w.length=v.length+2:=by rw[←h1,hT];simp
 simp only[bp,Bool.and_eq_true,decide_eq_true_eq]
 refine⟨by omega,?_⟩
 rw[hwl,hd,hp,hd2]
 have e:(46::(v++46::s.drop (n+1+v.length+1)))=(46::v++[46])++s.drop (n+1+v.length+1):=by simp
 rw[e,List.take_left' (by simp),←h1,hT]
 simp[upB]
end
end Go.Abs
set_option linter.unusedVariables false
set_option linter.unusedSimpArgs false
set_option maxRecDepth 100000
namespace Go.Abs
open Go Go.Proofs
section
variable {μ:Mu}
theorem dg {n m:Nat}(h:n<m):decide ((n:Int)<(m:Int))=true:=by simp;omega
theorem dN {n m:Nat}(h:m≤n):decide ((n:Int)<(m:Int))=false:=by simp;omega
theorem Q2 {n m:Nat}(h:n≤m):decide ((n:Int)≤(m:Int))=true:=by simp;omega
theorem Qm {n m:Nat}(h:m<n):decide ((n:Int)≤(m:Int))=false:=by simp;omega
theorem bH {s:List UInt8}{n:Nat}(h:n<s.length):aX s (n:Int)=some s[n]:=by rw[gu,List.getElem?_eq_getElem h]
theorem bV {n:Nat}(h:n≤1000000000):IntKind.wrap .i64 ((n:Int)+1)=((n+1:Nat):Int):=by rw[bc (by omega) (by omega)];omega
theorem ge {n m:Nat}(h:n+m≤1000000000):IntKind.wrap .i64 ((n:Int)+(m:Int))=((n+m:Nat):Int):=by rw[bc (by omega) (by omega)];omega
theorem Rg {n m:Nat}(h:n≤1000000000)(h2:m≤n):IntKind.wrap .i64 ((n:Int) -(m:Int))=((n-m:Nat):Int):=by rw[bc (by omega) (by omega)];omega
theorem Mg {n:Nat}(h:n≤1000000000)(h2:1≤n):IntKind.wrap .i64 ((n:Int) -1)=((n-1:Nat):Int):=by rw[bc (by omega) (by omega)];omega
theorem Fx {s:List UInt8}{n:Nat}(h:n<s.length):bJ s (n:Int) ((n+1:Nat):Int)=some [s[n]]:=by
 rw[dz (by omega) (by omega),List.drop_eq_getElem_cons h]
 have:n+1-n=1:=by omega
 rw[this]
 rfl
theorem rG {c:UInt8}:(ev E).call 67 [LV.int .u8 (c.toNat:Int)] μ=some (.ret (LV.bool (ay c)) μ):=by
 refine aK ?_
 rw[Q5]
 have e1:decide ((48:Int)≤(c.toNat:Int))=decide (48≤c.toNat):=dI 48 _
 have e2:decide ((c.toNat:Int)≤57)=decide (c.toNat≤57):=dI _ 57
 rw[e1,e2]
 unfold ay
 cases decide (48≤c.toNat)<;>rfl
theorem Mp {c:UInt8}:(ev E).call 96 [LV.int .u8 (c.toNat:Int)] μ=some (.ret (LV.bool (bg c)) μ):=by
 refine aK ?_
 rw[QS]
 have e1:decide ((97:Int)≤(c.toNat:Int))=decide (97≤c.toNat):=dI 97 _
 have e2:decide ((c.toNat:Int)≤122)=decide (c.toNat≤122):=dI _ 122
 have e3:decide ((65:Int)≤(c.toNat:Int))=decide (65≤c.toNat):=dI 65 _
 have e4:decide ((c.toNat:Int)≤90)=decide (c.toNat≤90):=dI _ 90
 rw[e1,e2,e3,e4]
 unfold bg
 cases decide (97≤c.toNat)<;>cases decide (c.toNat≤122)<;>cases decide (65≤c.toNat)<;>cases decide (c.toNat≤90)<;>rfl
theorem o6 {a b c:Int}:(ev E).call 23 [LV.int .i64 a,LV.int .i64 b,LV.int .i64 c] μ=some (.ret (LV.bool (decide (b≤a)&&decide (a≤c))) μ):=by
 refine aK ?_
 rw[Qn]
 by_cases h:a<b
 ·have h1:decide (a<b)=true:=by simp[h]
  have h2:decide (b≤a)=false:=by simp;omega
  rw[h1,h2];rfl
 ·have h1:decide (a<b)=false:=by simp;omega
  have h2:decide (b≤a)=true:=by simp;omega
  have h3:(!decide (c<a))=decide (a≤c):=by
   by_cases h4:c<a
   ·have: ¬a≤c:=by omega
    simp[h4,this]
   ·have:a≤c:=by omega
    simp[h4,this]
  rw[h1,h2,h3];rfl
theorem Ov: ∀(k:Nat) (p l:List UInt8),l.length=k→p.length+k≤1000000→
  rx (ev E) (p.length+k) (p.length:Int) (bh (p++l)) μ=some (ow (p.length+k) (bh (p++l.map upB)) μ):=by
 intro k
 induction k with
 |zero=>
  intro p l hl hp
  have:l=[]:=List.eq_nil_of_length_eq_zero hl
  subst this
  refine bb ?_
  rw[Df,dN (by omega),cond_false]
  rfl
 |succ k ih=>
  intro p l hl hp
  cases l with
  |nil=>simp at hl
  |cons c r=>
   simp only[List.length_cons]at hl
   refine bb ?_
   have hr:dW (p.length:Int) (p.length+(k+1))=true:=by simp[dW];omega
   have ho:bv E.P 5 (Ob.arr 1 (bh (p++c::r))) (0+((p.length:Int)).toNat*1)=some (LV.int .u8 (c.toNat:Int)):=by
    have e1:0+((p.length:Int)).toNat*1=p.length:=by omega
    rw[e1]
    have e2:bv E.P 5 (Ob.arr 1 (bh (p++c::r))) p.length=opt ((bh (p++c::r))[p.length]?) fun c=>some (.cv c):=by kernel_rfl
    have e3:(bh (p++c::r))[p.length]? =some (CV.int .u8 (c.toNat:Int)):=by
     unfold bh
     rw[List.getElem?_map,List.getElem?_append_right (Nat.le_refl _),Nat.sub_self]
     rfl
    rw[e2,e3]
    rfl
   have hn:rx (ev E) (p.length+(k+1)) (IntKind.wrap .i64 ((p.length:Int)+1)) (bh (p++upB c::r)) μ=some (ow (p.length+(k+1)) (bh (p++(c::r).map upB)) μ):=by
    have:=ih (p++[upB c]) r (by omega) (by simp;omega)
    have e1:(p++[upB c]).length+k=p.length+(k+1):=by simp;omega
    have e2:(((p++[upB c]).length:Nat):Int)=((p.length+1:Nat):Int):=by simp
    rw[e1,e2]at this
    rw[bV (by omega)]
    have e3:p++[upB c]++r=p++upB c::r:=by simp
    have e4:p++[upB c]++r.map upB=p++(c::r).map upB:=by simp
    rw[e3,e4]at this
    exact this
   rw[Df,dg (by omega),cond_true,hr,aw,ho]
   simp only[ad,ao,aa,aj,am,ah,ae,ak,aw,cond_true,cond_false,Bool.not_true,Bool.not_false,ar,au,aq]
   have e1:decide ((97:Int)≤(c.toNat:Int))=decide (97≤c.toNat):=dI 97 _
   have e2:decide ((c.toNat:Int)≤122)=decide (c.toNat≤122):=dI _ 122
   rw[e1,e2]
   by_cases h1:97≤c.toNat
   ·by_cases h2:c.toNat≤122
    ·have hu:upB c=c-32:=by unfold upB;rw[if_pos ⟨h1,h2⟩]
     have hc:(c-32).toNat=c.toNat-32:=by
      rw[UInt8.toNat_sub_of_le]
      ·rfl
      ·rw[UInt8.le_iff_toNat_le];show 32≤c.toNat;omega
     have w1:IntKind.wrap .u8 ((c.toNat:Int) -97)=(c.toNat:Int) -97:=xH (by omega) (by omega)
     have w2:IntKind.wrap .u8 ((c.toNat:Int) -97+65)=((upB c).toNat:Int):=by rw[xH (by omega) (by omega),hu,hc];omega
     have hs:cr (bh (p++c::r)) (0+((p.length:Int)).toNat*1) (CV.cells (CV.int .u8 ((upB c).toNat:Int)))=bh (p++upB c::r):=by
      have e1:0+((p.length:Int)).toNat*1=p.length:=by omega
      rw[e1]
      show ((bh (p++c::r)).set p.length (CV.int .u8 ((upB c).toNat:Int)))=_
      unfold bh
      rw[List.map_append,List.map_append,List.set_append,if_neg (by simp)]
      simp
     have hg:(eX 1 (CV.int .u8 ((upB c).toNat:Int))&&Nat.ble (0+((p.length:Int)).toNat*1+1) (bh (p++c::r)).length)=true:=by
      have e1:0+((p.length:Int)).toNat*1+1=p.length+1:=by omega
      rw[e1,ig]
      have:eX 1 (CV.int .u8 ((upB c).toNat:Int))=true:=rfl
      rw[this,Bool.true_and]
      simp
     simp only[h1,h2,decide_true,ad,ao,aa,aj,am,ah,ae,ak,aw,cond_true,cond_false,Bool.not_true,Bool.not_false,ar,au,aq,hr]
     rw[w1,w2,hg,aw,hs,hn]
    ·have hu:upB c=c:=by unfold upB;rw[if_neg (by omega)]
     rw[hu]at hn
     simp only[h1,h2,decide_true,decide_false,ad,ao,aa,aj,am,ah,ae,ak,aw,cond_true,cond_false,Bool.not_true,Bool.not_false,ar,au,aq,hr]
     rw[hn]
   ·have hu:upB c=c:=by unfold upB;rw[if_neg (by omega)]
    rw[hu]at hn
    simp only[h1,decide_false,ad,ao,aa,aj,am,ah,ae,ak,aw,cond_true,cond_false,Bool.not_true,Bool.not_false,ar,au,aq]
    rw[hn]
theorem My {s:List UInt8}(hs:s.length≤1000000):(ev E).call 97 [LV.str s] μ=some (.ret (LV.str (s.map upB)) μ):=by
 refine aK ?_
 have:=Ov (μ:=μ) s.length [] s rfl (by simpa using hs)
 simp only[List.length_nil,Nat.zero_add,List.nil_append]at this
 have e0:((0:Nat):Int)=0:=rfl
 rw[e0]at this
 rw[Qy,bj (by omega),aw,this,aa,Fp]
 have h1:(List.take s.length (List.drop 0 (bh (s.map upB))))=bh (s.map upB):=by
  rw[List.drop_zero,List.take_of_length_le]
  rw[ig,List.length_map];exact Nat.le_refl _
 have h2:Nat.ble (0+s.length) (bh (s.map upB)).length=true:=by rw[ig,List.length_map];simp
 rw[h1,h2,aw,cJ,aa]
theorem nX {s w:List UInt8}{n:Nat}(hs:s.length≤200000)(hn:n≤s.length)(hw:w.length≤200000):(ev E).call 99 [LV.str s,LV.int .i64 (n:Int),LV.str w] μ=some (.ret (LV.bool (bp s n w)) μ):=by
 refine aK ?_
 rw[Qk,ge (by omega)]
 unfold bp
 by_cases h:n+w.length≤s.length
 ·rw[Q2 h,cond_true,dz (by omega) h,aa]
  have e:n+w.length-n=w.length:=by omega
  rw[e,My (by simp;omega)]
  simp only[ad,ao,aa,aj,am,ah,ae,ak,aw,cond_true,cond_false,Bool.not_true,Bool.not_false,ar,au,aq]
  simp[h]
 ·rw[Qm (by omega),cond_false]
  simp[h]
theorem O4 {s:List UInt8}(hs:s.length≤200000){n:Nat}(hn:n≤s.length): ∀(k m:Nat),n+m+k=s.length→Gs (ev E) s (n:Int) (m:Int) μ=some (ox ((m+digR s (n+m):Nat):Int) μ):=by
 intro k
 induction k with
 |zero=>
  intro m hm
  refine bb ?_
  rw[Do,ge (by omega),dN (by omega),cond_false]
  have:s.drop (n+m)=[]:=List.drop_eq_nil_of_le (by omega)
  simp[digR,this]
 |succ k ih=>
  intro m hm
  refine bb ?_
  have hlt:n+m<s.length:=by omega
  rw[Do,ge (by omega),dg (by omega),cond_true,bH hlt,aa,rG]
  simp only[ad,ao,aa,aj,am,ah,ae,ak,aw,cond_true,cond_false,Bool.not_true,Bool.not_false,ar,au,aq]
  have hd:s.drop (n+m)=s[n+m]::s.drop (n+m+1):=List.drop_eq_getElem_cons hlt
  cases hc:ay s[n+m]with
  |true=>
   rw[cond_true,bV (by omega),ih (m+1) (by omega)]
   unfold digR
   rw[hd,List.takeWhile_cons,hc]
   simp only[if_true,List.length_cons]
   have:n+(m+1)=n+m+1:=by omega
   rw[this]
   congr 3
   omega
  |false=>
   rw[cond_false]
   unfold digR
   rw[hd,List.takeWhile_cons,hc]
   simp
theorem ux {s:List UInt8}(hs:s.length≤200000){n:Nat}(hn:n≤s.length):(ev E).call 47 [LV.str s,LV.int .i64 (n:Int)] μ=some (.ret (LV.int .i64 (digR s n:Nat)) μ):=by
 refine aK ?_
 have:=O4 (μ:=μ) hs hn (s.length-n) 0 (by omega)
 have e0:((0:Nat):Int)=0:=rfl
 rw[e0,Nat.zero_add,Nat.add_zero]at this
 rw[Rf,this,aa,Gv]
theorem nF {s:List UInt8}{n:Nat}(hn:n≤s.length):n+digR s n≤s.length:=by
 unfold digR
 have:=(List.takeWhile_sublist ay (l:=s.drop n)).length_le
 rw[List.length_drop]at this
 omega
theorem FM {t:List UInt8}:(ev E).call 70 [LV.str t] μ=some (.ret (LV.str (aU t)) μ):=by
 refine aK ?_
 rw[Q3]
 unfold aU
 by_cases h:t=[]<;>simp[h]
theorem Jg: ∀(s:List UInt8),s.length≤1000000→Ek (ev E) s μ=some (o7 (bx s) μ)
 |[],_=>bb (by rw[wc];rfl)
 |[c],_=>bb (by rw[wc];rfl)
 |c::d::r,h=>by
  have e48: ∀c:UInt8,decide ((c.toNat:Int)=48)=decide (c=48):=fun c=>bG (k:=48) (by omega)
  simp only[List.length_cons]at h
  refine bb ?_
  have h1:decide ((1:Int)<((c::d::r).length:Int))=true:=by simp;omega
  have h2:aX (c::d::r) (0:Int)=some c:=rfl
  have h3:=gp (l:=c::d::r) (a:=1) (by simp)
  have e1:((1:Nat):Int)=1:=rfl
  rw[e1]at h3
  rw[wc,h1,cond_true,h2,aa,e48,h3,aa]
  unfold bx
  by_cases hc:c=48
  ·have:decide (c=48)=true:=by simp[hc]
   rw[this,cond_true,if_pos hc]
   exact Jg (d::r) (by simp;omega)
  ·have:decide (c=48)=false:=by simp[hc]
   rw[this,cond_false,if_neg hc]
theorem Ef {s:List UInt8}(hs:s.length≤1000000):(ev E).call 69 [LV.str s] μ=some (.ret (LV.str (bx s)) μ):=by
 refine aK ?_
 rw[QP,Jg s hs,aa,F6]
def fj (s:List UInt8):List UInt8:=(bx s.reverse).reverse
theorem M0: ∀(k:Nat) (s:List UInt8),s.length=k→s.length≤1000000→AH (ev E) s μ=some (mJ (fj s) μ):=by
 have e48: ∀c:UInt8,decide ((c.toNat:Int)=48)=decide (c=48):=fun c=>bG (k:=48) (by omega)
 intro k
 induction k with
 |zero=>
  intro s hk h
  have:s=[]:=List.eq_nil_of_length_eq_zero hk
  subst this
  exact bb (by rw[sO];rfl)
 |succ k ih=>
  intro s hk h
  refine bb ?_
  have hne:s≠[]:=by intro e;subst e;simp at hk
  have hsp:=List.dropLast_concat_getLast hne
  have hrev:s.reverse=s.getLast hne::s.dropLast.reverse:=by
   conv=>lhs;rw[←hsp]
   simp
  by_cases h1:1<s.length
  ·have e1:decide ((1:Int)<(s.length:Int))=true:=by simp;omega
   have hdl:s.dropLast.length=s.length-1:=List.length_dropLast
   obtain⟨d,r,hr⟩: ∃d r,s.dropLast.reverse=d::r:=by
    cases hx:s.dropLast.reverse with
    |nil=>
     have:s.dropLast.length=0:=by rw[←List.length_reverse,hx];rfl
     omega
    |cons d r=>exact⟨d,r,rfl⟩
   have hl:aX s ((s.length-1:Nat):Int)=some (s.getLast hne):=by rw[bH (by omega),List.getLast_eq_getElem]
   have hcut:bJ s (0:Int) ((s.length-1:Nat):Int)=some s.dropLast:=by
    have:=dz (l:=s) (a:=0) (e:=s.length-1) (by omega) (by omega)
    have e0:((0:Nat):Int)=0:=rfl
    rw[e0]at this
    rw[this,List.drop_zero,Nat.sub_zero,List.dropLast_eq_take]
   rw[sO,e1,cond_true,Mg (by omega) (by omega),hl,aa,e48,hcut,aa]
   by_cases hc:s.getLast hne=48
   ·have:decide (s.getLast hne=48)=true:=by simp[hc]
    rw[this,cond_true,ih s.dropLast (by omega) (by omega)]
    unfold fj
    rw[hrev,hr,bx,if_pos hc]
   ·have:decide (s.getLast hne=48)=false:=by simp[hc]
    rw[this,cond_false]
    unfold fj
    rw[hrev,hr,bx,if_neg hc,←hr,←hrev,List.reverse_reverse]
  ·have e1:decide ((1:Int)<(s.length:Int))=false:=by simp;omega
   rw[sO,e1,cond_false]
   have hd:s.dropLast=[]:=List.eq_nil_of_length_eq_zero (by rw[List.length_dropLast];omega)
   unfold fj
   rw[hrev,hd]
   rw[hd,List.nil_append]at hsp
   rw[List.reverse_nil,bx,List.reverse_singleton,hsp]
theorem OP {s:List UInt8}(hs:s.length≤1000000):(ev E).call 134 [LV.str s] μ=some (.ret (LV.str (fj s)) μ):=by
 refine aK ?_
 rw[Pr,M0 _ s rfl hs,aa,BL]
def countR (s:List UInt8):Nat:=if s=[48]then 0 else s.length
theorem GU {s:List UInt8}:(ev E).call 135 [LV.str s] μ=some (.ret (LV.int .i64 (countR s:Nat)) μ):=by
 refine aK ?_
 rw[Pz]
 unfold countR
 by_cases h:s=[48]
 ·simp[h]
 ·simp[h]
theorem MO {s:List UInt8}(hs:s.length≤9)(hd: ∀b∈s,ay b=true): ∀(k m acc:Nat),m+k=s.length→(acc+1)*10^k≤1000000000→yL (ev E) s (acc:Int) (m:Int) μ=some (qn (valD acc (s.drop m):Nat) μ):=by
 intro k
 induction k with
 |zero=>
  intro m acc hm ha
  refine bb ?_
  rw[Am,dN (by omega),cond_false,List.drop_eq_nil_of_le (by omega)]
  rfl
 |succ k ih=>
  intro m acc hm ha
  have hp:1≤10^k:=Nat.pow_pos (by omega)
  have e2:(acc+1)*10^(k+1)=((acc+1)*10)*10^k:=by rw[Nat.pow_succ,Nat.mul_comm (10^k) 10,Nat.mul_assoc]
  rw[e2]at ha
  have h3:(acc+1)*10≤1000000000:=Nat.le_trans (Nat.le_mul_of_pos_right _ hp) ha
  have hlt:m<s.length:=by omega
  have hc:=bN.1 (hd s[m] (List.getElem_mem hlt))
  refine bb ?_
  have w1:IntKind.wrap .u8 ((s[m].toNat:Int) -48)=((s[m].toNat-48:Nat):Int):=by rw[xH (by omega) (by omega)];omega
  have w2:IntKind.wrap .i64 ((s[m].toNat-48:Nat):Int)=((s[m].toNat-48:Nat):Int):=bc (by omega) (by omega)
  have w3:IntKind.wrap .i64 (10*(acc:Int))=((10*acc:Nat):Int):=by rw[bc (by omega) (by omega)];omega
  have w4:IntKind.wrap .i64 (((10*acc:Nat):Int)+((s[m].toNat-48:Nat):Int))=((acc*10+(s[m].toNat-48):Nat):Int):=by rw[bc (by omega) (by omega)];omega
  rw[Am,dg hlt,cond_true,bH hlt,aa,w1,w2,w3,w4,bV (by omega),ih (m+1) _ (by omega) (Nat.le_trans (Nat.mul_le_mul_right _ (by omega)) ha),List.drop_eq_getElem_cons hlt,cY]
theorem N8 {s:List UInt8}(hs:s.length≤9)(hd: ∀b∈s,ay b=true):(ev E).call 120 [LV.str s] μ=some (.ret (LV.int .i64 (valD 0 s:Nat)) μ):=by
 refine aK ?_
 have hp:(0+1)*10^s.length≤1000000000:=by
  have:10^s.length≤10^9:=Nat.pow_le_pow_right (by omega) hs
  omega
 have:=MO (μ:=μ) hs hd s.length 0 0 (by omega) hp
 have e0:((0:Nat):Int)=0:=rfl
 rw[e0,List.drop_zero]at this
 rw[Pm,this,aa,AZ]
theorem Me (n:Nat):Int.tdiv (n:Int) 10=((n / 10:Nat):Int):=by exact rfl
theorem L8 (n:Nat):Int.tmod (n:Int) 10=((n % 10:Nat):Int):=by exact rfl
theorem jO {n:Nat}:Lib.itoa (n:Int)=Lib.decDigits n:=by
 unfold Lib.itoa
 rw[if_neg (by omega)]
 rfl
theorem tN {n:Nat}(h:1≤n):Lib.itoa (-(n:Int))=45::Lib.decDigits n:=by
 unfold Lib.itoa
 rw[if_pos (by omega)]
 congr 2
 omega
theorem NA: ∀d:Fin 10,bJ ([48,49,50,51,52,53,54,55,56,57]:List UInt8) (d.val:Int) ((d.val+1:Nat):Int)=some [UInt8.ofNat (48+d.val)]:=by decide
theorem nj {n:Nat}(h:n<18446744073709551616):(Lib.decDigits n).length≤20:=by rw[Lib.decDigits_length];exact Lib.nDigits_le20 n h
theorem zf: ∀(n:Nat),n≤1000000000→(ev E).call 71 [LV.int .i64 (n:Int)] μ=some (.ret (LV.str (Lib.decDigits n)) μ):=by
 intro n
 induction n using Nat.strongRecOn with
 |_ n ih=>
  intro hn
  refine aK ?_
  have h0:decide ((n:Int)<0)=false:=by simp
  rw[OM,h0,cond_false]
  have hG:Ms (ev E) (n:Int) μ=some (oB (Lib.decDigits n) μ):=by
   refine aO ?_
   rw[NO]
   by_cases h9:9<n
   ·have e9:decide ((9:Int)<(n:Int))=true:=by simp;omega
    have w1:IntKind.wrap .i64 (Int.tdiv (n:Int) 10)=((n / 10:Nat):Int):=by
     have:Int.tdiv (n:Int) 10=((n / 10:Nat):Int):=Me n
     rw[this,bc (by omega) (by omega)]
    have w2:Int.tmod (n:Int) 10=((n % 10:Nat):Int):=L8 n
    have hd1:(Lib.decDigits (n / 10)).length≤20:=nj (by omega)
    have hd2:(Lib.decDigits (n % 10)).length≤20:=nj (by omega)
    rw[e9,cond_true,w1,ih (n / 10) (by omega) (by omega)]
    simp only[ad,ao,aa,aj,am,ah,ae,ak,aw,cond_true,cond_false,Bool.not_true,Bool.not_false,ar,au,aq]
    rw[w2,ih (n % 10) (by omega) (by omega)]
    simp only[ad,ao,aa,aj,am,ah,ae,ak,aw,cond_true,cond_false,Bool.not_true,Bool.not_false,ar,au,aq]
    rw[bj (by omega),aw]
    have:Lib.decDigits (n % 10)=[UInt8.ofNat (48+n % 10)]:=Lib.decDigits_one (by omega)
    rw[this]
    have e:=wa (u:=n / 10) (d:=n % 10) (by omega) (by omega)
    have e2:n / 10*10+n % 10=n:=by omega
    rw[e2]at e
    rw[e]
   ·have e9:decide ((9:Int)<(n:Int))=false:=by simp;omega
    rw[e9,cond_false,bV (by omega)]
    have:=NA ⟨n,by omega⟩
    simp only at this
    rw[this,aa,Lib.decDigits_one (by omega)]
  rw[hG,aa,Gu]
theorem Oj: ∀(n:Nat),1≤n→n≤1000000000→(ev E).call 71 [LV.int .i64 (-(n:Int))] μ=some (.ret (LV.str (45::Lib.decDigits n)) μ):=by
 intro n
 induction n using Nat.strongRecOn with
 |_ n ih=>
  intro h1 hn
  refine aK ?_
  have h0:decide (-(n:Int)<0)=true:=by simp;omega
  rw[OM,h0,cond_true]
  by_cases h9:9<n
  ·have e9:decide ((-10:Int)< -(n:Int))=false:=by simp;omega
   rw[e9,cond_false]
   have hG:Mc (ev E) (-(n:Int)) μ=some (ti (45::Lib.decDigits n) μ):=by
    refine aO ?_
    have w1:IntKind.wrap .i64 (Int.tdiv (-(n:Int)) 10)= -((n / 10:Nat):Int):=by
     have:Int.tdiv (-(n:Int)) 10= -((n / 10:Nat):Int):=by rw[Int.neg_tdiv,Me]
     rw[this,bc (by omega) (by omega)]
    have w2:IntKind.wrap .i64 (0-Int.tmod (-(n:Int)) 10)=((n % 10:Nat):Int):=by
     have:Int.tmod (-(n:Int)) 10= -((n % 10:Nat):Int):=by rw[Int.neg_tmod,L8]
     rw[this,bc (by omega) (by omega)]
     omega
    have hd1:(Lib.decDigits (n / 10)).length≤20:=nj (by omega)
    have hd2:(Lib.decDigits (n % 10)).length≤20:=nj (by omega)
    rw[Nt,w1,ih (n / 10) (by omega) (by omega) (by omega)]
    simp only[ad,ao,aa,aj,am,ah,ae,ak,aw,cond_true,cond_false,Bool.not_true,Bool.not_false,ar,au,aq]
    rw[w2,zf (n % 10) (by omega)]
    simp only[ad,ao,aa,aj,am,ah,ae,ak,aw,cond_true,cond_false,Bool.not_true,Bool.not_false,ar,au,aq]
    rw[bj (by simp;omega),aw]
    have:Lib.decDigits (n % 10)=[UInt8.ofNat (48+n % 10)]:=Lib.decDigits_one (by omega)
    rw[this]
    have e:=wa (u:=n / 10) (d:=n % 10) (by omega) (by omega)
    have e2:n / 10*10+n % 10=n:=by omega
    rw[e2]at e
    rw[e]
    rfl
   rw[hG,aa,D9]
  ·have e9:decide ((-10:Int)< -(n:Int))=true:=by simp;omega
   have w1:IntKind.wrap .i64 (0- -(n:Int))=(n:Int):=by rw[bc (by omega) (by omega)];omega
   have hd2:(Lib.decDigits n).length≤20:=nj (by omega)
   rw[e9,cond_true,w1,zf n (by omega)]
   simp only[ad,ao,aa,aj,am,ah,ae,ak,aw,cond_true,cond_false,Bool.not_true,Bool.not_false,ar,au,aq]
   rw[bj (by simp;omega),aw]
   rfl
theorem Gt {n:Int}(h0: -1000000000≤n)(h1:n≤1000000000):(ev E).call 71 [LV.int .i64 n] μ=some (.ret (LV.str (Lib.itoa n)) μ):=by
 by_cases h:0≤n
 ·obtain⟨m,rfl⟩: ∃m:Nat,n=(m:Int):=⟨n.toNat,by omega⟩
  rw[jO]
  exact zf m (by omega)
 ·obtain⟨m,rfl⟩: ∃m:Nat,n= -(m:Int):=⟨(-n).toNat,by omega⟩
  rw[tN (by omega)]
  exact Oj m (by omega) (by omega)
theorem Oy {s:List UInt8}(hs:s.length≤200000): ∀(k m:Nat) (acc:List UInt8),m+k=s.length→acc.length≤1+2*m→xP (ev E) s acc (m:Int) μ=some (sZ (acc++dbl (s.drop m)) μ):=by
 have e39: ∀c:UInt8,decide ((c.toNat:Int)=39)=decide (c=39):=fun c=>bG (k:=39) (by omega)
 intro k
 induction k with
 |zero=>
  intro m acc hm ha
  refine bb ?_
  rw[Dw,dN (by omega),cond_false,List.drop_eq_nil_of_le (by omega)]
  simp[dbl]
 |succ k ih=>
  intro m acc hm ha
  have hlt:m<s.length:=by omega
  refine bb ?_
  rw[Dw,dg hlt,cond_true,bV (by omega),Fx hlt,aa,bj (by simp;omega),aw,bH hlt,aa,e39,List.drop_eq_getElem_cons hlt,dbl]
  by_cases hc:s[m]=39
  ·have:decide (s[m]=39)=true:=by simp[hc]
   rw[this,cond_true,bj (by simp;omega),aw,ih (m+1) _ (by omega) (by simp;omega),if_pos hc,hc]
   simp
  ·have:decide (s[m]=39)=false:=by simp[hc]
   rw[this,cond_false,ih (m+1) _ (by omega) (by simp;omega),if_neg hc]
   simp
theorem PU {s:List UInt8}(hs:s.length≤200000):(ev E).call 42 [LV.str s] μ=some (.ret (LV.str (fY s)) μ):=by
 refine aK ?_
 have:=Oy (μ:=μ) hs s.length 0 [39] (by omega) (by simp)
 have e0:((0:Nat):Int)=0:=rfl
 have hd:=rC s
 rw[e0,List.drop_zero]at this
 rw[QH,this,aa,GA,bj (by simp;omega),aw]
 rfl
theorem PS {s:List UInt8}{m:Int}(hs:s.length≤200000):(ev E).call 41 [LV.str s,LV.int .i64 m] μ=some (.ret (LV.bool (!decide (m<(s.length:Int))&&dC s)) μ):=by
 have hl: ∀(k n:Nat),n+k=s.length→Es (ev E) s (n:Int) μ=some (if dC (s.drop n)then th μ else tJ false μ):=by
  intro k
  induction k with
  |zero=>
   intro n hn
   refine bb ?_
   rw[CY,dN (by omega),cond_false,List.drop_eq_nil_of_le (by omega)]
   rfl
  |succ k ih=>
   intro n hn
   have hlt:n<s.length:=by omega
   refine bb ?_
   have w:IntKind.wrap .i64 (s[n].toNat:Int)=(s[n].toNat:Int):=by have:=s[n].toNat_lt;rw[bc (by omega) (by omega)]
   rw[CY,dg hlt,cond_true,bH hlt,aa,w,o6]
   simp only[ad,ao,aa,aj,am,ah,ae,ak,aw,cond_true,cond_false,Bool.not_true,Bool.not_false,ar,au,aq]
   rw[bV (by omega),ih (n+1) (by omega),List.drop_eq_getElem_cons hlt]
   have e1:decide ((32:Int)≤(s[n].toNat:Int))=decide (32≤s[n].toNat):=dI 32 _
   have e2:decide ((s[n].toNat:Int)≤126)=decide (s[n].toNat≤126):=dI _ 126
   rw[e1,e2]
   have hT:dC (s[n]::s.drop (n+1))=((decide (32≤s[n].toNat)&&decide (s[n].toNat≤126))&&dC (s.drop (n+1))):=by
    unfold dC
    rw[List.any_cons]
    by_cases h1:32≤s[n].toNat
    ·by_cases h2:s[n].toNat≤126
     ·have h3: ¬s[n].toNat<32:=by omega
      have h4: ¬126<s[n].toNat:=by omega
      simp[h1,h2,h3,h4]
     ·have h4:126<s[n].toNat:=by omega
      simp[h2,h4]
    ·have h3:s[n].toNat<32:=by omega
     simp[h1,h3]
   rw[hT]
   cases decide (32≤s[n].toNat)&&decide (s[n].toNat≤126)<;>rfl
 refine aK ?_
 rw[Rd]
 by_cases hm:m<(s.length:Int)
 ·have:decide (m<(s.length:Int))=true:=by simp[hm]
  rw[this];rfl
 ·have:decide (m<(s.length:Int))=false:=by simp[hm]
  have h0:=hl s.length 0 (by omega)
  have e0:((0:Nat):Int)=0:=rfl
  rw[e0,List.drop_zero]at h0
  have hG:L0 (ev E) s μ=some (oQ (dC s) μ):=by
   refine aO ?_
   rw[NV,h0,aa]
   cases dC s with
   |true=>exact En _ _
   |false=>exact EB _ _ _
  rw[this,cond_false,hG,aa,Gw]
  rfl
theorem Ma {s:List UInt8}(hs:s.length≤200000):(ev E).call 48 [LV.str s] μ=some (.ret (LV.int .i64 (bC s)) μ):=by
 refine aK ?_
 rw[Qs,PS hs]
 simp only[ad,ao,aa,aj,am,ah,ae,ak,aw,cond_true,cond_false,Bool.not_true,Bool.not_false,ar,au,aq]
 unfold bC
 by_cases h:1320<s.length
 ·have:decide ((1320:Int)<(s.length:Int))=true:=by simp;omega
  rw[this,if_pos h]
  rfl
 ·have:decide ((1320:Int)<(s.length:Int))=false:=by simp;omega
  rw[this,if_neg h]
  cases dC s<;>rfl
theorem Ot (x y:Tok):(decide (x.kind=y.kind)&&(decide (x.type=y.type)&&(decide (x.text=y.text)&&true)))=decide (x=y):=by
 cases x;cases y
 simp[Bool.decide_and]
end
end Go.Abs
set_option linter.unusedVariables false
set_option linter.unusedSimpArgs false
set_option maxRecDepth 100000
namespace Go.Abs
open Go Go.Proofs
def stN (μ:Mu)(X:Int→Int→List UInt8→Int→Int→Mu→St):Except Int (Tok×Nat)→St
 | .ok q=>X q.1.kind q.1.type q.1.text (q.2:Int) 0 μ
 | .error e=>X 0 0 [] 0 e μ
def kz:Except Int (Tok×Nat)→CV
 | .ok q=> .agg [CV.int .i64 q.1.kind,CV.int .i64 q.1.type,CV.str q.1.text,CV.int .i64 (q.2:Int),CV.int .i64 0]
 | .error e=> .agg [CV.int .i64 0,CV.int .i64 0,CV.str [],CV.int .i64 0,CV.int .i64 e]
def before (whole:List UInt8):List UInt8:=bx (aU whole)
def after (part:List UInt8):List UInt8:=fj (aU part)
def dq (whole part:List UInt8)(kind exp:Int)(e:Nat):Except Int (Tok×Nat):=
 if 30<countR (before whole)+countR (after part)then .error 7
 else if kind=2 then .ok (⟨1,kind,before whole++[46]++after part++[68]++Lib.itoa exp⟩,e)
 else if exp≠0 then .ok (⟨1,kind,before whole++[46]++after part++[69]++Lib.itoa exp⟩,e)
 else .ok (⟨1,kind,before whole++[46]++after part⟩,e)
def cj:List UInt8:=[50,49,52,55,52,56,51,54,52,55]
def kV (whole:List UInt8)(e:Nat):Except Int (Tok×Nat):=
 if 10<whole.length then .error 28
 else if(bx whole).length=10∧(Op.bytesLess (bx whole) cj||decide (bx whole=cj))=false then .error 28
 else .ok (⟨1,0,bx whole⟩,e)
def dj (s:List UInt8)(e:Nat):Int:=if atC false s (e+1)=45 then -((valD 0 (aV false s e):Nat):Int)else((valD 0 (aV false s e):Nat):Int)
def f8 (s whole part:List UInt8)(point:Bool)(e:Nat):Except Int (Tok×Nat):=
 if(aY false s e).2.2.2 then(if 3<(aV false s e).length then .error 7 else dq whole part (if(aY false s e).1=68 then 2 else 1) (dj s e) (aY false s e).2.2.1)
 else if point then dq whole part 1 0 e else kV whole e
def bX:List (List UInt8):=dn++[eK,d5]
def jV (s:List UInt8)(n:Nat):Bool:=decide (0<digR s n)&&bX.any (bp s (n+digR s n))
def f9 (s:List UInt8)(n:Nat):Except Int (Tok×Nat):=
 if !jV s n&&decide (s[n+digR s n]? =some 46)then
  f8 s ((s.drop n).take (digR s n)) ((s.drop (n+digR s n+1)).take (digR s (n+digR s n+1))) true (n+digR s n+1+digR s (n+digR s n+1))
 else f8 s ((s.drop n).take (digR s n)) [] false (n+digR s n)
section
variable {μ:Mu}{s:List UInt8}
theorem EE (l:List UInt8):(fj l).length≤l.length:=by
 unfold fj
 have:=mz l.reverse
 simpa using this
theorem D6 {x:Int}(h0: -1000000000≤x)(h1:x≤1000000000):(Lib.itoa x).length≤21:=Lib.itoa_length_le x (by omega) (by omega)
theorem KF {e:Nat}{kind exp a b c d:Int}{t be af:List UInt8}(hb:be.length≤300000)(ha:af.length≤300000)(h0: -1000000000≤exp)(h1:exp≤1000000000):
  IQ (ev E) (e:Int) kind exp be af a b t c d μ=some (kf 1 kind (if kind=2 then be++[46]++af++[68]++Lib.itoa exp else if exp≠0 then be++[46]++af++[69]++Lib.itoa exp else be++[46]++af) (e:Int) 0 μ):=by
 refine aO ?_
 have hi:=D6 h0 h1
 rw[Ll,bj (by simp;omega),aw,bj (by simp;omega),aw,Gt h0 h1]
 simp only[ad,ao,aa,aj,am,ah,ae,ak,aw,cond_true,cond_false,Bool.not_true,Bool.not_false,ar,au,aq]
 by_cases hk:kind=2
 ·have:decide (kind=2)=true:=by simp[hk]
  rw[this,cond_true,bj (by simp;omega),aw,bj (by simp;omega),aw,if_pos hk]
 ·have:decide (kind=2)=false:=by simp[hk]
  rw[this,cond_false,if_neg hk]
  by_cases he:exp=0
  ·have:decide (exp=0)=true:=by simp[he]
   rw[this,Bool.not_true,cond_false,if_neg (by simp[he])]
  ·have:decide (exp=0)=false:=by simp[he]
   rw[this,Bool.not_false,cond_true,if_pos he,bj (by simp;omega),aw,bj (by simp;omega),aw]
theorem AK {n w e:Nat}{kind exp a b c d:Int}{t part:List UInt8}(hs:s.length≤200000)(hw:n+w≤s.length)(hp:part.length≤200000)(h0: -1000000000≤exp)(h1:exp≤1000000000):
  ye (ev E) s (n:Int) (w:Int) (e:Int) kind exp part a b t c d μ=some (stN μ kI (dq ((s.drop n).take w) part kind exp e)):=by
 refine aO ?_
 have e1:n+w-n=w:=by omega
 have hl:((s.drop n).take w).length≤200000:=by simp;omega
 have k1:=eU ((s.drop n).take w)
 have k2:=eU part
 have k3:(before ((s.drop n).take w)).length≤200001:=by have:=mz (aU ((s.drop n).take w));unfold before;omega
 have k4:(after part).length≤200001:=by have:=EE (aU part);unfold after;omega
 rw[LI,ge (by omega),dz (by omega) hw,aa,e1,FM]
 simp only[ad,ao,aa,aj,am,ah,ae,ak,aw,cond_true,cond_false,Bool.not_true,Bool.not_false,ar,au,aq]
 rw[Ef (by omega)]
 simp only[ad,ao,aa,aj,am,ah,ae,ak,aw,cond_true,cond_false,Bool.not_true,Bool.not_false,ar,au,aq]
 rw[FM]
 simp only[ad,ao,aa,aj,am,ah,ae,ak,aw,cond_true,cond_false,Bool.not_true,Bool.not_false,ar,au,aq]
 rw[OP (by omega)]
 simp only[ad,ao,aa,aj,am,ah,ae,ak,aw,cond_true,cond_false,Bool.not_true,Bool.not_false,ar,au,aq]
 rw[GU]
 simp only[ad,ao,aa,aj,am,ah,ae,ak,aw,cond_true,cond_false,Bool.not_true,Bool.not_false,ar,au,aq]
 rw[GU]
 simp only[ad,ao,aa,aj,am,ah,ae,ak,aw,cond_true,cond_false,Bool.not_true,Bool.not_false,ar,au,aq]
 have hB:bx (aU ((s.drop n).take w))=before ((s.drop n).take w):=rfl
 have hA:fj (aU part)=after part:=rfl
 have c1:countR (before ((s.drop n).take w))≤200001:=by unfold countR;split<;>omega
 have c2:countR (after part)≤200001:=by unfold countR;split<;>omega
 rw[hB,hA,ge (by omega),KF (by omega) (by omega) h0 h1,aa,Cc]
 unfold dq
 by_cases h30:30<countR (before ((s.drop n).take w))+countR (after part)
 ·have:decide ((30:Int)<((countR (before ((s.drop n).take w))+countR (after part):Nat):Int))=true:=by simp;omega
  rw[this,cond_true,if_pos h30]
  rfl
 ·have:decide ((30:Int)<((countR (before ((s.drop n).take w))+countR (after part):Nat):Int))=false:=by simp;omega
  rw[this,cond_false,if_neg h30]
  by_cases hk:kind=2
  ·rw[if_pos hk,if_pos hk];rfl
  ·rw[if_neg hk,if_neg hk]
   by_cases he:exp≠0
   ·rw[if_pos he,if_pos he];rfl
   ·rw[if_neg he,if_neg he];rfl
theorem LK {n w e:Nat}{a b c d:Int}{t:List UInt8}(hs:s.length≤200000)(hw:n+w≤s.length)(h10:w≤10):
  GJ (ev E) s (n:Int) (w:Int) (e:Int) a b t c d μ=some (stN μ kC (kV ((s.drop n).take w) e)):=by
 refine aO ?_
 have e1:n+w-n=w:=by omega
 have hl:((s.drop n).take w).length=w:=by simp;omega
 rw[J6,ge (by omega),dz (by omega) hw,aa,e1,Ef (by omega)]
 simp only[ad,ao,aa,aj,am,ah,ae,ak,aw,cond_true,cond_false,Bool.not_true,Bool.not_false,ar,au,aq]
 unfold kV
 rw[if_neg (by omega)]
 have hm:([50,49,52,55,52,56,51,54,52,55]:List UInt8)=cj:=rfl
 rw[hm]
 by_cases hT:(bx ((s.drop n).take w)).length=10
 ·have:decide (((bx ((s.drop n).take w)).length:Int)=10)=true:=by simp;omega
  rw[this,cond_true]
  cases hB:(Op.bytesLess (bx ((s.drop n).take w)) cj||decide (bx ((s.drop n).take w)=cj))with
  |true=>rw[if_neg (by simp)];rfl
  |false=>rw[if_pos ⟨hT,rfl⟩];rfl
 ·have:decide (((bx ((s.drop n).take w)).length:Int)=10)=false:=by simp;omega
  rw[this,cond_false,if_neg (by simp[hT])]
  rfl
def ma (whole part:List UInt8)(point has:Bool)(kind exp:Int)(e:Nat):Except Int (Tok×Nat):=if point||has then dq whole part kind exp e else kV whole e
theorem KE {n w e p:Nat}{kind exp a b c d:Int}{t:List UInt8}{point has:Bool}(hs:s.length≤200000)(hw:n+w≤s.length)(hp:point=true→n+w+1+p≤s.length)(h0: -1000000000≤exp)(h1:exp≤1000000000):
  ng (ev E) s (n:Int) (w:Int) (e:Int) point (p:Int) kind exp has a b t c d μ=some (stN μ iK (ma ((s.drop n).take w) (if point then(s.drop (n+w+1)).take p else []) point has kind exp e)):=by
 refine aO ?_
 have h38:(opt (ur (ev E) s (n:Int) (w:Int) (e:Int) point (p:Int) kind exp a b t c d μ) (kS (ev E) H98 [] [(4,0)]))=some (stN μ iK (dq ((s.drop n).take w) (if point then(s.drop (n+w+1)).take p else []) kind exp e)):=by
  have:ur (ev E) s (n:Int) (w:Int) (e:Int) point (p:Int) kind exp a b t c d μ=some (stN μ mr (dq ((s.drop n).take w) (if point then(s.drop (n+w+1)).take p else []) kind exp e)):=by
   refine aO ?_
   have hfin: ∀q,kS (ev E) H98 [] [(4,0)] (stN μ kI q)=some (stN μ mr q):=by
    intro q
    cases q with
    |ok q=>exact sI _ _ _ _ _ _ _
    |error e=>exact sI _ _ _ _ _ _ _
   cases point with
   |true=>
    have hp':=hp rfl
    have e1:n+w+1+p-(n+w+1)=p:=by omega
    rw[zn,cond_true,ge (by omega),bV (by omega),ge (by omega),dz (by omega) hp',aa,e1,AK hs hw (by simp;omega) h0 h1,aa,hfin]
    rfl
   |false=>
    rw[zn,cond_false,AK hs hw (by simp) h0 h1,aa,hfin]
    rfl
  rw[this,aa]
  cases dq ((s.drop n).take w) (if point then(s.drop (n+w+1)).take p else []) kind exp e with
  |ok q=>exact ss _ _ _ _ _ _ _
  |error e=>exact ss _ _ _ _ _ _ _
 rw[Km]
 unfold ma
 cases point with
 |true=>rw[Bool.not_true,cond_false,h38];rfl
 |false=>
  rw[Bool.not_false,cond_true]
  cases has with
  |true=>rw[Bool.not_true,cond_false,h38];rfl
  |false=>
   rw[Bool.not_false,cond_true]
   have hl:((s.drop n).take w).length=w:=by simp;omega
   by_cases h10:10<w
   ·have:decide ((10:Int)<(w:Int))=true:=by simp;omega
    rw[this,cond_true]
    simp only[Bool.or_self,Bool.false_eq_true,if_false,kV,hl,if_pos h10]
    rfl
   ·have:decide ((10:Int)<(w:Int))=false:=by simp;omega
    rw[this,cond_false,LK hs hw (by omega),aa]
    simp only[Bool.or_self,Bool.false_eq_true,if_false]
    cases kV ((s.drop n).take w) e with
    |ok q=>exact se _ _ _ _ _ _ _
    |error e=>exact se _ _ _ _ _ _ _
theorem wo: ∀i:Fin 256,((UInt8.ofNat i.val &&& 223=69)↔(UInt8.ofNat i.val=69∨UInt8.ofNat i.val=101))∧((UInt8.ofNat i.val &&& 223=68)↔(UInt8.ofNat i.val=68∨UInt8.ofNat i.val=100)):=by decide
theorem nZ (c:UInt8):((c &&& 223=69)↔(c=69∨c=101))∧((c &&& 223=68)↔(c=68∨c=100)):=by
 have:=wo ⟨c.toNat,c.toNat_lt⟩
 simpa using this
theorem CD {l:List UInt8}(h: ∀b∈l,ay b=true)(hl:l.length≤9):valD 0 l<1000000000:=by
 have:=(dh l 0 h).2
 have h2:10^l.length≤10^9:=Nat.pow_le_pow_right (by omega) hl
 omega
theorem Lc {n w e p k:Nat}{a b c d:Int}{t:List UInt8}{point:Bool}(hs:s.length≤200000)(hw:n+w≤s.length)(he:e<s.length)(hk:k≤s.length)(hk1:e+1≤k):
  cH (ev E) s (n : Int) (w : Int) (e : Int) point (p : Int) 1 0 false (k : Int) a b t c d μ = some (
   if digR s k=0 then kh s (n:Int) (w:Int) (e:Int) point (p:Int) 1 0 false a b t c d μ
   else if 3<digR s k then qS 0 0 [] 0 7 μ
   else kh s (n:Int) (w:Int) ((k+digR s k:Nat):Int) point (p:Int) (if s[e]=68∨s[e]=100 then 2 else 1) (if s[k-1]? =some 45 then -((valD 0 ((s.drop k).take (digR s k)):Nat):Int)else((valD 0 ((s.drop k).take (digR s k)):Nat):Int)) true a b t c d μ):=by
 have e68: ∀c:UInt8,decide ((c.toNat:Int)=68)=decide (c=68):=fun c=>bG (k:=68) (by omega)
 have e100: ∀c:UInt8,decide ((c.toNat:Int)=100)=decide (c=100):=fun c=>bG (k:=100) (by omega)
 have e45: ∀c:UInt8,decide ((c.toNat:Int)=45)=decide (c=45):=fun c=>bG (k:=45) (by omega)
 have hm:=nF hk
 refine aO ?_
 rw[Ka,ux hs hk]
 simp only[ad,ao,aa,aj,am,ah,ae,ak,aw,cond_true,cond_false,Bool.not_true,Bool.not_false,ar,au,aq]
 by_cases h0:digR s k=0
 ·have:decide ((0:Int)<((digR s k:Nat):Int))=false:=by simp;omega
  rw[this,cond_false,if_pos h0]
 ·have:decide ((0:Int)<((digR s k:Nat):Int))=true:=by simp;omega
  rw[this,cond_true,if_neg h0]
  by_cases h3:3<digR s k
  ·have:decide ((3:Int)<((digR s k:Nat):Int))=true:=by simp;omega
   rw[this,cond_true,if_pos h3]
  ·have:decide ((3:Int)<((digR s k:Nat):Int))=false:=by simp;omega
   rw[this,cond_false,if_neg h3]
   have hk2:k-1<s.length:=by omega
   have hdig: ∀b∈(s.drop k).take (digR s k),ay b=true:=by
    intro b hb
    have:(s.drop k).take (digR s k)=(s.drop k).takeWhile ay:=by
     unfold digR
     exact(List.prefix_iff_eq_take.1 (List.takeWhile_prefix _)).symm
    rw[this]at hb
    exact fS _ b hb
   have hlen:((s.drop k).take (digR s k)).length≤9:=by simp;omega
   have hv:=CD hdig hlen
   have h28: ∀(x:Int),AC (ev E) s (n:Int) (w:Int) (e:Int) point (p:Int) 1 x true (k:Int) (digR s k:Nat) a b t c d μ=some (kq s (n:Int) (w:Int) ((k+digR s k:Nat):Int) point (p:Int) (if s[e]=68∨s[e]=100 then 2 else 1) x true a b t c d μ):=by
    intro x
    refine aO ?_
    rw[LC,bH he,aa,aa,e68,e100,ge (by omega)]
    by_cases h1:s[e]=68
    ·have:decide (s[e]=68)=true:=by simp[h1]
     rw[this,cond_true,if_pos (Or.inl h1)]
    ·have:decide (s[e]=68)=false:=by simp[h1]
     rw[this,cond_false]
     by_cases h2:s[e]=100
     ·have:decide (s[e]=100)=true:=by simp[h2]
      rw[this,cond_true,if_pos (Or.inr h2)]
     ·have:decide (s[e]=100)=false:=by simp[h2]
      rw[this,cond_false,if_neg (by simp[h1,h2])]
   have h24:Hk (ev E) s (n:Int) (w:Int) (e:Int) point (p:Int) 1 (k:Int) (digR s k:Nat) a b t c d μ=some (qB s (n:Int) (w:Int) ((k+digR s k:Nat):Int) point (p:Int) (if s[e]=68∨s[e]=100 then 2 else 1) (if s[k-1]? =some 45 then -((valD 0 ((s.drop k).take (digR s k)):Nat):Int)else((valD 0 ((s.drop k).take (digR s k)):Nat):Int)) true a b t c d μ):=by
    refine aO ?_
    have e1:k+digR s k-k=digR s k:=by omega
    rw[LG,ge (by omega),dz (by omega) hm,aa,e1,N8 hlen hdig]
    simp only[ad,ao,aa,aj,am,ah,ae,ak,aw,cond_true,cond_false,Bool.not_true,Bool.not_false,ar,au,aq]
    rw[Mg (by omega) (by omega),bH hk2,aa,e45,List.getElem?_eq_getElem hk2]
    by_cases h45:s[k-1]=45
    ·have:decide (s[k-1]=45)=true:=by simp[h45]
     have w1:IntKind.wrap .i64 (0-((valD 0 ((s.drop k).take (digR s k)):Nat):Int))= -((valD 0 ((s.drop k).take (digR s k)):Nat):Int):=by rw[bc (by omega) (by omega)];omega
     rw[this,cond_true,w1,h28,aa,sc,if_pos (show (some s[k-1]:Option UInt8)=some 45 by rw[h45])]
    ·have:decide (s[k-1]=45)=false:=by simp[h45]
     rw[this,cond_false,h28,aa,sc,if_neg (show ¬(some s[k-1]:Option UInt8)=some 45 by simp[h45])]
   rw[h24,aa,A1]
theorem zO {n w e p:Nat}{a b c d:Int}{t:List UInt8}{word point:Bool}(hs:s.length≤200000)(hw:n+w≤s.length)(he:e≤s.length)(hp:point=true→n+w+1+p≤s.length)(hword:word=true→s[e]? =some 46):
  nJ (ev E) s (n:Int) (w:Int) (e:Int) word point (p:Int) a b t c d μ=some (stN μ fA (f8 s ((s.drop n).take w) (if point then(s.drop (n+w+1)).take p else []) point e)):=by
 have e69: ∀c:UInt8,decide ((c.toNat:Int)=69)=decide (c=69):=fun c=>bG (k:=69) (by omega)
 have e101: ∀c:UInt8,decide ((c.toNat:Int)=101)=decide (c=101):=fun c=>bG (k:=101) (by omega)
 have e68: ∀c:UInt8,decide ((c.toNat:Int)=68)=decide (c=68):=fun c=>bG (k:=68) (by omega)
 have e100: ∀c:UInt8,decide ((c.toNat:Int)=100)=decide (c=100):=fun c=>bG (k:=100) (by omega)
 have e43: ∀c:UInt8,decide ((c.toNat:Int)=43)=decide (c=43):=fun c=>bG (k:=43) (by omega)
 have e45: ∀c:UInt8,decide ((c.toNat:Int)=45)=decide (c=45):=fun c=>bG (k:=45) (by omega)
 obtain⟨whole,hwhole⟩: ∃x,x=(s.drop n).take w:=⟨_,rfl⟩
 obtain⟨part,hpart⟩: ∃x,x=(if point then(s.drop (n+w+1)).take p else []):=⟨_,rfl⟩
 have h31: ∀{kind exp:Int} {has:Bool} {e:Nat},-1000000000≤exp→exp≤1000000000→(opt (ng (ev E) s (n:Int) (w:Int) (e:Int) point (p:Int) kind exp has a b t c d μ) (kS (ev E) H98 [] [(4,0)]))=some (stN μ fA (ma whole part point has kind exp e)):=by
  intro kind exp has e h0 h1
  rw[KE hs hw hp h0 h1,aa,hwhole,hpart]
  cases ma ((s.drop n).take w) (if point then(s.drop (n+w+1)).take p else []) point has kind exp e with
  |ok q=>exact sL _ _ _ _ _ _ _
  |error e=>exact sL _ _ _ _ _ _ _
 have hno: ∀{kind exp:Int},ma whole part point false 1 0 e=if point then dq whole part 1 0 e else kV whole e:=by
  intro kind exp
  unfold ma
  rw[Bool.or_false]
 rw[←hwhole,←hpart]
 refine aO ?_
 rw[LH,h31 (by omega) (by omega),hno (kind:=0) (exp:=0)]
 unfold f8
 cases word with
 |true=>
  have hc:atC false s e=46:=by rw[cg,hword rfl];rfl
  have hx:(aY false s e).2.2.2=false:=by
   have:bZ false s e=14:=by unfold bZ;rw[hc];rfl
   unfold aY
   rw[this];rfl
  rw[Bool.not_true,cond_false,hx]
  rfl
 |false=>
  rw[Bool.not_false,cond_true]
  by_cases hlt:e<s.length
  ·have hg:s[e]? =some s[e]:=List.getElem?_eq_getElem hlt
   have hc:atC false s e=s[e]:=by rw[cg,hg];rfl
   have hE:atE false s e=e+1:=by rw[dp,if_pos hlt]
   rw[dg hlt,cond_true,bH hlt]
   simp only[aa,e69,e101,e68,e100]
   by_cases hlet:s[e]=69∨s[e]=101∨s[e]=68∨s[e]=100
   ·
    have hL:bZ false s e=69∨bZ false s e=68:=by
     unfold bZ
     rw[hc]
     have:=nZ s[e]
     rcases hlet with h|h|h|h
     ·exact Or.inl (this.1.2 (Or.inl h))
     ·exact Or.inl (this.1.2 (Or.inr h))
     ·exact Or.inr (this.2.2 (Or.inl h))
     ·exact Or.inr (this.2.2 (Or.inr h))
    have hC2:atC false s (e+1)=(s[e+1]?).getD 0:=rfl
    have hst:expStart false s e≤s.length:=by
     unfold expStart
     rw[hE,dp]
     split<;>(try split)<;>omega
    have hst1:e+1≤expStart false s e:=by
     unfold expStart
     rw[hE,dp]
     split<;>(try split)<;>omega
    have hdg:aV false s e=(s.drop (expStart false s e)).take (digR s (expStart false s e)):=(jT).1
    have hend:runE false ay s (expStart false s e)=expStart false s e+digR s (expStart false s e):=(jT).2
    have hok:(aY false s e)=(bZ false s e,cO false s e++aV false s e,runE false ay s (expStart false s e),!decide (aV false s e=[])):=by unfold aY;rw[if_pos hL]
    have hdl:(aV false s e).length=digR s (expStart false s e):=by
     rw[hdg]
     have:=nF hst
     simp;omega
    have h20:(opt (cH (ev E) s (n:Int) (w:Int) (e:Int) point (p:Int) 1 0 false (expStart false s e:Nat) a b t c d μ) (kS (ev E) H98 [.seq (cA 98 [1,1,1,1,1,1,1,1,1,1])] [(4,0)]))=
      some (stN μ fA (if(aY false s e).2.2.2 then(if 3<(aV false s e).length then .error 7 else dq whole part (if(aY false s e).1=68 then 2 else 1) (dj s e) (aY false s e).2.2.1)else if point then dq whole part 1 0 e else kV whole e)):=by
     rw[Lc hs hw hlt hst hst1,aa,hok,hdl,hend]
     simp only
     by_cases h0:digR s (expStart false s e)=0
     ·have:aV false s e=[]:=List.eq_nil_of_length_eq_zero (by omega)
      rw[if_pos h0,this,sH,h31 (by omega) (by omega),hno (kind:=0) (exp:=0)]
      rfl
     ·have:aV false s e≠[]:=by intro h;rw[h]at hdl;simp at hdl;omega
      have h1:(!decide (aV false s e=[]))=true:=by simp[this]
      rw[if_neg h0,h1,if_pos rfl]
      by_cases h3:3<digR s (expStart false s e)
      ·rw[if_pos h3,if_pos h3,AX]
       rfl
      ·have hlen:(aV false s e).length≤9:=by omega
       have hdig: ∀b∈aV false s e,ay b=true:=iD
       have hv:=CD hdig hlen
       rw[hdg]at hv
       have hsign:(if s[expStart false s e-1]? =some 45 then -((valD 0 ((s.drop (expStart false s e)).take (digR s (expStart false s e))):Nat):Int)else((valD 0 ((s.drop (expStart false s e)).take (digR s (expStart false s e))):Nat):Int))=dj s e:=by
        unfold dj
        rw[hdg]
        have hiff:s[expStart false s e-1]? =some 45↔atC false s (e+1)=45:=by
         have hstD:expStart false s e=if(s[e+1]?).getD 0=43∨(s[e+1]?).getD 0=45 then atE false s (e+1)else e+1:=by unfold expStart;rw[hE,hC2]
         rw[hC2,hstD]
         by_cases hsg:(s[e+1]?).getD 0=43∨(s[e+1]?).getD 0=45
         ·have h2:e+1<s.length:=by
           rcases Nat.lt_or_ge (e+1) s.length with h|h
           ·exact h
           ·rw[List.getElem?_eq_none h]at hsg
            rcases hsg with h|h<;>simp at h
          rw[if_pos hsg,dp,if_pos h2]
          have:e+1+1-1=e+1:=by omega
          rw[this,List.getElem?_eq_getElem h2]
          simp
         ·rw[if_neg hsg]
          have:e+1-1=e:=by omega
          rw[this,hg]
          constructor
          ·intro h
           injection h with h
           rw[h]at hlet
           exact absurd hlet (by decide)
          ·intro h
           exact absurd (Or.inr h) hsg
        by_cases h:s[expStart false s e-1]? =some 45
        ·rw[if_pos h,if_pos (hiff.1 h)]
        ·rw[if_neg h,if_neg (fun hh=>h (hiff.2 hh))]
       have hkind:(if s[e]=68∨s[e]=100 then(2:Int)else 1)=if bZ false s e=68 then 2 else 1:=by
        have hL2:bZ false s e=s[e] &&& 223:=by unfold bZ;rw[hc]
        rw[hL2]
        have:=(nZ s[e]).2
        by_cases h:s[e]=68∨s[e]=100
        ·rw[if_pos h,if_pos (this.2 h)]
        ·rw[if_neg h,if_neg (fun hh=>h (this.1 hh))]
       have hb: -1000000000≤dj s e∧dj s e≤1000000000:=by
        unfold dj
        rw[hdg]
        split<;>omega
       rw[if_neg h3,if_neg h3,hsign,hkind,sH,h31 hb.1 hb.2]
       unfold ma
       rw[Bool.or_true,if_pos rfl]
    have hA : cond (decide (IntKind.wrap .i64 ((e : Int) + 1) < (s.length : Int))) (
      opt (aX s (IntKind.wrap .i64 ((e:Int)+1))) fun y25=>
      cond (decide (y25 = 43)) (
      opt (cH (ev E) s (n:Int) (w:Int) (e:Int) point (p:Int) 1 0 false (IntKind.wrap .i64 (IntKind.wrap .i64 ((e:Int)+1)+1)) a b t c d μ) (kS (ev E) H98 [.seq (cA 98 [1,1,1,1,1,1,1,1,1,1])] [(4,0)])) (
      opt (aX s (IntKind.wrap .i64 ((e:Int)+1))) fun y99=>
      cond (decide (y99 = 45)) (
      opt (cH (ev E) s (n:Int) (w:Int) (e:Int) point (p:Int) 1 0 false (IntKind.wrap .i64 (IntKind.wrap .i64 ((e:Int)+1)+1)) a b t c d μ) (kS (ev E) H98 [.seq (cA 98 [1,1,1,1,1,1,1,1,1,1])] [(4,0)])) (
      opt (cH (ev E) s (n:Int) (w:Int) (e:Int) point (p:Int) 1 0 false (IntKind.wrap .i64 ((e:Int)+1)) a b t c d μ) (kS (ev E) H98 [.seq (cA 98 [1,1,1,1,1,1,1,1,1,1])] [(4,0)])))) (
      opt (cH (ev E) s (n:Int) (w:Int) (e:Int) point (p:Int) 1 0 false (IntKind.wrap .i64 ((e:Int)+1)) a b t c d μ) (kS (ev E) H98 [.seq (cA 98 [1,1,1,1,1,1,1,1,1,1])] [(4,0)]))=
      some (stN μ fA (if(aY false s e).2.2.2 then(if 3<(aV false s e).length then .error 7 else dq whole part (if(aY false s e).1=68 then 2 else 1) (dj s e) (aY false s e).2.2.1)else if point then dq whole part 1 0 e else kV whole e)):=by
     have hstD:expStart false s e=if(s[e+1]?).getD 0=43∨(s[e+1]?).getD 0=45 then atE false s (e+1)else e+1:=by unfold expStart;rw[hE,hC2]
     rw[bV (by omega),bV (by omega)]
     by_cases h2:e+1<s.length
     ·have hg2:(s[e+1]?).getD 0=s[e+1]:=by rw[List.getElem?_eq_getElem h2];rfl
      rw[hg2,dp,if_pos h2]at hstD
      rw[dg h2,cond_true,bH h2]
      simp only[aa]
      by_cases h43:s[e+1]=43
      ·have:decide (s[e+1]=43)=true:=by simp[h43]
       rw[if_pos (Or.inl h43)]at hstD
       rw[hstD]at h20
       rw[this,cond_true,h20]
      ·have:decide (s[e+1]=43)=false:=by simp[h43]
       rw[this,cond_false]
       by_cases h45:s[e+1]=45
       ·have:decide (s[e+1]=45)=true:=by simp[h45]
        rw[if_pos (Or.inr h45)]at hstD
        rw[hstD]at h20
        rw[this,cond_true,h20]
       ·have:decide (s[e+1]=45)=false:=by simp[h45]
        rw[if_neg (by simp[h43,h45])]at hstD
        rw[hstD]at h20
        rw[this,cond_false,h20]
     ·have hg2:(s[e+1]?).getD 0=0:=by rw[List.getElem?_eq_none (by omega)];rfl
      rw[hg2,if_neg (by decide)]at hstD
      rw[hstD]at h20
      rw[dN (by omega),cond_false,h20]
    simp only[e43,e45]
    rw[hA]
    rcases hlet with h|h|h|h
    ·rw[h];rfl
    ·rw[h];rfl
    ·rw[h];rfl
    ·rw[h];rfl
   ·have hn1:s[e]≠69:=fun h=>hlet (Or.inl h)
    have hn2:s[e]≠101:=fun h=>hlet (Or.inr (Or.inl h))
    have hn3:s[e]≠68:=fun h=>hlet (Or.inr (Or.inr (Or.inl h)))
    have hn4:s[e]≠100:=fun h=>hlet (Or.inr (Or.inr (Or.inr h)))
    have d1:decide (s[e]=69)=false:=by simp[hn1]
    have d2:decide (s[e]=101)=false:=by simp[hn2]
    have d3:decide (s[e]=68)=false:=by simp[hn3]
    have d4:decide (s[e]=100)=false:=by simp[hn4]
    have hx:(aY false s e).2.2.2=false:=by
     have hL2:bZ false s e=s[e] &&& 223:=by unfold bZ;rw[hc]
     unfold aY
     rw[hL2,if_neg]
     intro h
     have:=nZ s[e]
     rcases h with h|h
     ·rcases this.1.1 h with h|h
      ·exact hn1 h
      ·exact hn2 h
     ·rcases this.2.1 h with h|h
      ·exact hn3 h
      ·exact hn4 h
    rw[d1,d2,d3,d4,hx]
    rfl
  ·have hx:(aY false s e).2.2.2=false:=by
    have hc:atC false s e=0:=by rw[cg,List.getElem?_eq_none (by omega)];rfl
    have:bZ false s e=0:=by unfold bZ;rw[hc];rfl
    unfold aY
    rw[this];rfl
   rw[dN (by omega),cond_false,hx]
   rfl
theorem Mh:(ev E).call 55 [] μ=some (.ret (LV.osl (bA dn)) μ):=aK (by rw[QB];rfl)
theorem D1: ∀w∈bX,w.length≤200000:=by decide
theorem Oe {n w i:Nat}{a b c d:Int}{t:List UInt8}(hs:s.length≤200000)(hi:i≤s.length): ∀(k j:Nat) (word:Bool),j+k=bX.length→
  uv (ev E) s (n:Int) (w:Int) (i:Int) word (bA bX) (bX.length:Int) (j:Int) a b t c d μ=some (sP s (n:Int) (w:Int) (i:Int) (word||(decide (0<w)&&(bX.drop j).any (bp s i))) a b t c d μ):=by
 intro k
 induction k with
 |zero=>
  intro j word hj
  refine bb ?_
  rw[C3,dN (by omega),cond_false,List.drop_eq_nil_of_le (by omega)]
  simp
 |succ k ih=>
  intro j word hj
  have hlt:j<bX.length:=by omega
  have hj2:bX.length≤13:=by decide
  have hg:dZ (bA bX) (j:Int)=some (CV.str bX[j]):=by rw[iC];simp[bA,hlt]
  refine bb ?_
  rw[C3,dg hlt,cond_true,hg,aa,iS,aa,bV (by omega),List.drop_eq_getElem_cons hlt,List.any_cons]
  cases word with
  |true=>rw[cond_true,ih (j+1) true (by omega)];rfl
  |false=>
   rw[cond_false]
   by_cases hw:0<w
   ·have:decide ((0:Int)<(w:Int))=true:=by simp;omega
    rw[this,cond_true,nX hs hi (D1 _ (List.getElem_mem hlt))]
    simp only[ad,ao,aa,aj,am,ah,ae,ak,aw,cond_true,cond_false,Bool.not_true,Bool.not_false,ar,au,aq]
    rw[ih (j+1) _ (by omega)]
    have:decide (0<w)=true:=by simp[hw]
    rw[this]
    simp
   ·have:decide ((0:Int)<(w:Int))=false:=by simp;omega
    have h2:decide (0<w)=false:=by simp;omega
    rw[this,cond_false,ih (j+1) false (by omega),h2]
    rfl
theorem im: ∀w∈bX,Hw w:=by
 intro w hw
 simp only[bX,dn,eK,d5,List.cons_append,List.nil_append,List.mem_cons,List.not_mem_nil,or_false]at hw
 rcases hw with rfl|rfl|rfl|rfl|rfl|rfl|rfl|rfl|rfl|rfl|rfl|rfl|rfl
 ·exact⟨[76,84],rfl,by decide⟩
 ·exact⟨[76,69],rfl,by decide⟩
 ·exact⟨[69,81],rfl,by decide⟩
 ·exact⟨[78,69],rfl,by decide⟩
 ·exact⟨[71,69],rfl,by decide⟩
 ·exact⟨[71,84],rfl,by decide⟩
 ·exact⟨[78,79,84],rfl,by decide⟩
 ·exact⟨[65,78,68],rfl,by decide⟩
 ·exact⟨[79,82],rfl,by decide⟩
 ·exact⟨[69,81,86],rfl,by decide⟩
 ·exact⟨[78,69,81,86],rfl,by decide⟩
 ·exact⟨[84,82,85,69],rfl,by decide⟩
 ·exact⟨[70,65,76,83,69],rfl,by decide⟩
theorem MX {n:Nat}(h:bX.any (bp s n)=true):s[n]? =some 46:=by
 rw[List.any_eq_true]at h
 obtain⟨w,hw,hb⟩:=h
 have:=(fR (im w hw) hb).1
 rw[cg]at this
 cases hg:s[n]? with
 |none=>rw[hg]at this;simp at this
 |some c=>rw[hg]at this;simp at this;rw[this]
theorem PQ (hs:s.length≤200000){n:Nat}(hn:n≤s.length):(ev E).call 98 [LV.str s,LV.int .i64 (n:Int)] μ=some (.ret (.cv (kz (f9 s n))) μ):=by
 have e46: ∀c:UInt8,decide ((c.toNat:Int)=46)=decide (c=46):=fun c=>bG (k:=46) (by omega)
 have hw:=nF hn
 have hap:gg 1 (bA dn) [CV.str ([46,84,82,85,69,46]:List UInt8),CV.str ([46,70,65,76,83,69,46]:List UInt8)]=true:=by decide
 have hwr:bA dn++[CV.str ([46,84,82,85,69,46]:List UInt8),CV.str ([46,70,65,76,83,69,46]:List UInt8)]=bA bX:=rfl
 have hwl:(bA bX).length=bX.length:=by simp[bA]
 refine aK ?_
 rw[QR,ux hs hn]
 simp only[ad,ao,aa,aj,am,ah,ae,ak,aw,cond_true,cond_false,Bool.not_true,Bool.not_false,ar,au,aq]
 rw[Mh]
 simp only[ad,ao,aa,aj,am,ah,ae,ak,aw,cond_true,cond_false,Bool.not_true,Bool.not_false,ar,au,aq]
 have hl:=Oe (μ:=μ) (n:=n) (w:=digR s n) (i:=n+digR s n) (a:=0) (b:=0) (c:=0) (d:=0) (t:=[]) hs hw bX.length 0 false (by omega)
 have e0:((0:Nat):Int)=0:=rfl
 rw[e0,List.drop_zero,Bool.false_or]at hl
 rw[hap,aw,hwr,hwl,ge (by omega),hl,aa,FH]
 have hW:(decide (0<digR s n)&&bX.any (bp s (n+digR s n)))=jV s n:=rfl
 rw[hW]
 have hfin: ∀q:Except Int (Tok×Nat),kB (ev E) 98 H98 [] (stN μ fA q)=some (.ret (.cv (kz q)) μ):=by
  intro q
  cases q with
  |ok q=>exact sN _ _ _ _ _ _ _
  |error e=>exact sN _ _ _ _ _ _ _
 have hword: ∀{x:Bool},jV s n=x→x=true→s[n+digR s n]? =some 46:=by
  intro x h1 h2
  rw[h2]at h1
  unfold jV at h1
  rw[Bool.and_eq_true]at h1
  exact MX h1.2
 have hno: ∀{x:Bool},jV s n=x→(opt (nJ (ev E) s (n:Int) (digR s n:Nat) ((n+digR s n:Nat):Int) x false 0 0 0 [] 0 0 μ) (kB (ev E) 98 H98 []))=some (.ret (.cv (kz (f8 s ((s.drop n).take (digR s n)) [] false (n+digR s n)))) μ):=by
  intro x hx
  have:=zO (μ:=μ) (n:=n) (w:=digR s n) (e:=n+digR s n) (p:=0) (a:=0) (b:=0) (c:=0) (d:=0) (t:=[]) (word:=x) (point:=false) hs hw hw (by intro h;cases h) (hword hx)
  rw[e0]at this
  rw[this,aa,hfin]
  rfl
 unfold f9
 cases hx:jV s n with
 |true=>rw[Bool.not_true,cond_false,hno hx];rfl
 |false=>
  rw[Bool.not_false,cond_true]
  by_cases hlt:n+digR s n<s.length
  ·rw[dg hlt,cond_true,bH hlt]
   simp only[aa,e46]
   rw[List.getElem?_eq_getElem hlt]
   by_cases h46:s[n+digR s n]=46
   ·have:decide (s[n+digR s n]=46)=true:=by simp[h46]
    have hp:=nF (s:=s) (n:=n+digR s n+1) hlt
    rw[this,cond_true,bV (by omega),ux hs hlt]
    simp only[ad,ao,aa,aj,am,ah,ae,ak,aw,cond_true,cond_false,Bool.not_true,Bool.not_false,ar,au,aq]
    rw[ge (n:=n+digR s n+1) (m:=digR s (n+digR s n+1)) (by omega),zO hs hw hp (fun _=>hp) (by intro h;cases h),aa,hfin]
    have h2:(true&&decide ((some s[n+digR s n]:Option UInt8)=some 46))=true:=by simp[h46]
    rw[h2,if_pos rfl]
    rfl
   ·have:decide (s[n+digR s n]=46)=false:=by simp[h46]
    have h2:(true&&decide ((some s[n+digR s n]:Option UInt8)=some 46))=false:=by simp[h46]
    rw[this,cond_false,hno hx,h2]
    rfl
  ·have h2:(true&&decide (s[n+digR s n]? =some 46))=false:=by rw[List.getElem?_eq_none (by omega)];rfl
   rw[dN (by omega),cond_false,hno hx,h2]
   rfl
end
end Go.Abs
set_option linter.unusedVariables false
set_option linter.unusedSimpArgs false
set_option maxRecDepth 100000
namespace Go.Abs
open Go Go.Proofs
section
variable {s:List UInt8}{n:Nat}
theorem ie:bX=dn++[eK,d5]:=rfl
theorem Hp (h:atC false s n=46):bX.any (bp s n)=(ck false s n).2.2:=by
 have hd:(ck false s n).2.2=k9 false s n:=by unfold ck;rw[if_pos h]
 rw[hd]
 apply Bool.eq_iff_iff.2
 constructor
 ·intro ha
  rw[List.any_eq_true]at ha
  obtain⟨w,hw,hb⟩:=ha
  obtain⟨_,h2,h3,_⟩:=fR (im w hw) hb
  unfold k9
  rw[h2,h3]
  rw[ie,List.mem_append]at hw
  rcases hw with hw|hw
  ·have:dn.contains w=true:=List.contains_iff_mem.2 hw
   rw[this];rfl
  ·simp only[List.mem_cons,List.not_mem_nil,or_false]at hw
   rcases hw with rfl|rfl
   ·simp
   ·simp
 ·intro ha
  unfold k9 at ha
  simp only[Bool.and_eq_true,Bool.or_eq_true,decide_eq_true_eq]at ha
  obtain⟨h3,h4⟩:=ha
  have hm:c8 false s n∈bX:=by
   rw[ie,List.mem_append]
   rcases h4 with(h4|h4)|h4
   ·exact Or.inl (List.contains_iff_mem.1 h4)
   ·rw[h4];exact Or.inr (by simp)
   ·rw[h4];exact Or.inr (by simp)
  rw[List.any_eq_true]
  exact⟨_,hm,xy h rfl h3⟩
theorem lj: ∀(l:List UInt8),l≠[]→bx l=aU (l.dropWhile (· == 48))
 |[],h=>absurd rfl h
 |[c],_=>by
  unfold bx aU
  by_cases hc:c=48
  ·simp[hc]
  ·simp[hc]
 |c::d::r,_=>by
  unfold bx
  by_cases hc:c=48
  ·have:(c::d::r).dropWhile (· ==(48:UInt8))=(d::r).dropWhile (· == 48):=by
    rw[List.dropWhile_cons,hc];rfl
   rw[if_pos hc,lj (d::r) (by simp),this]
  ·rw[if_neg hc,List.dropWhile_cons]
   simp[hc,aU]
theorem w7 (l:List UInt8):before l=aU (br l):=by
 unfold before br Lib.trimLeftB
 by_cases h:l=[]
 ·subst h;rfl
 ·have:aU l=l:=by unfold aU;rw[if_neg h]
  rw[this]
  exact lj l h
theorem FP (l:List UInt8):(aU l).reverse=aU l.reverse:=by
 unfold aU
 by_cases h:l=[]
 ·subst h;rfl
 ·rw[if_neg h,if_neg (by simpa using h)]
theorem Ap (l:List UInt8):after l=aU (bn l):=by
 unfold after bn Lib.trimRightB fj
 by_cases h:l=[]
 ·subst h;rfl
 ·have:aU l=l:=by unfold aU;rw[if_neg h]
  rw[this,lj l.reverse (by simpa using h),FP]
theorem u3 (l:List UInt8):countR (aU (br l))=(br l).length:=by
 unfold countR aU
 by_cases h:br l=[]
 ·rw[if_pos h,if_pos rfl,h];rfl
 ·rw[if_neg h,if_neg]
  intro h2
  unfold br Lib.trimLeftB at h2
  have:=List.head_dropWhile_not (· ==(48:UInt8)) (l:=l) (by rw[h2];simp)
  simp only[h2]at this
  simp at this
theorem sA (l:List UInt8):countR (aU (bn l))=(bn l).length:=by
 unfold countR aU
 by_cases h:bn l=[]
 ·rw[if_pos h,if_pos rfl,h];rfl
 ·rw[if_neg h,if_neg]
  intro h2
  unfold bn Lib.trimRightB at h2
  have h3:l.reverse.dropWhile (· ==(48:UInt8))=[48]:=by
   have:=congrArg List.reverse h2
   simpa using this
  have:=List.head_dropWhile_not (· ==(48:UInt8)) (l:=l.reverse) (by rw[h3];simp)
  simp only[h3]at this
  simp at this
theorem lQ: ∀(a b:List UInt8),a.length=b.length→(∀x∈a,ay x=true)→(∀x∈b,ay x=true)→Op.bytesLess a b=true→valD 0 a<valD 0 b
 |[],[],_,_,_,h=>by simp[Op.bytesLess]at h
 |[],_::_,hl,_,_,_=>by simp at hl
 |_::_,[],hl,_,_,_=>by simp at hl
 |x::a,y::b,hl,ha,hb,h=>by
  simp only[List.length_cons,Nat.add_right_cancel_iff]at hl
  have hx:=bN.1 (ha x List.mem_cons_self)
  have hy:=bN.1 (hb y List.mem_cons_self)
  have ha': ∀x∈a,ay x=true:=fun z hz=>ha z (List.mem_cons_of_mem _ hz)
  have hb': ∀x∈b,ay x=true:=fun z hz=>hb z (List.mem_cons_of_mem _ hz)
  rw[cY,cY,ru a,ru b,hl]
  have h1:=(dh a 0 ha').2
  rw[hl]at h1
  simp only[Op.bytesLess,Bool.or_eq_true,Bool.and_eq_true,decide_eq_true_eq,beq_iff_eq]at h
  rcases h with h|⟨h,h2⟩
  ·have hlt:x.toNat<y.toNat:=UInt8.lt_iff_toNat_lt.1 h
   have h3:(0*10+(x.toNat-48)+1)*10^b.length≤(0*10+(y.toNat-48))*10^b.length:=Nat.mul_le_mul_right _ (by omega)
   rw[Nat.add_mul]at h3
   omega
  ·subst h
   have:=lQ a b hl ha' hb' h2
   omega
theorem oH: ∀(a b:List UInt8),a.length=b.length→Op.bytesLess a b=true∨a=b∨Op.bytesLess b a=true
 |[],[],_=>Or.inr (Or.inl rfl)
 |[],_::_,hl=>by simp at hl
 |_::_,[],hl=>by simp at hl
 |x::a,y::b,hl=>by
  simp only[List.length_cons,Nat.add_right_cancel_iff]at hl
  simp only[Op.bytesLess,Bool.or_eq_true,Bool.and_eq_true,decide_eq_true_eq,beq_iff_eq,List.cons.injEq]
  by_cases h1:x<y
  ·exact Or.inl (Or.inl h1)
  ·by_cases h2:y<x
   ·exact Or.inr (Or.inr (Or.inl h2))
   ·have:x=y:=by
     apply UInt8.toNat.inj
     rw[UInt8.lt_iff_toNat_lt]at h1 h2
     omega
    subst this
    rcases oH a b hl with h|h|h
    ·exact Or.inl (Or.inr ⟨rfl,h⟩)
    ·exact Or.inr (Or.inl ⟨rfl,h⟩)
    ·exact Or.inr (Or.inr (Or.inr ⟨rfl,h⟩))
theorem jC:valD 0 cj=2147483647:=by decide
theorem oO: ∀x∈cj,ay x=true:=by decide
theorem Od {w:List UInt8}(hd: ∀b∈w,ay b=true)(h0:w≠[])(e:Nat):kV w e=(match cx w with| .ok t=> .ok (t,e)| .error x=> .error x):=by
 unfold kV cx
 by_cases h10:10<w.length
 ·rw[if_pos h10,if_pos (Or.inl h10)]
 ·rw[if_neg h10]
  have ha:=f7 hd h0 (by omega)
  have hN:cw w=(valD 0 w:Nat):=by unfold cw;rw[ha]
  have hK:jY w=true:=by unfold jY;rw[ha]
  have hT:=pR w
  have hTd: ∀b∈bx w,ay b=true:=fun b hb=>hd b (kG w b hb)
  have key:((bx w).length=10∧(Op.bytesLess (bx w) cj||decide (bx w=cj))=false)↔2147483647<valD 0 w:=by
   by_cases hl:(bx w).length=10
   ·have hlm:(bx w).length=cj.length:=hl
    constructor
    ·rintro⟨_,h2⟩
     rw[Bool.or_eq_false_iff]at h2
     rcases oH (bx w) cj hlm with h|h|h
     ·rw[h]at h2;exact absurd h2.1 (by simp)
     ·rw[h]at h2;exact absurd h2.2 (by simp)
     ·have:=lQ _ _ hlm.symm oO hTd h
      rw[jC,hT]at this
      exact this
    ·intro h
     refine⟨hl,?_⟩
     rw[Bool.or_eq_false_iff]
     constructor
     ·cases hb:Op.bytesLess (bx w) cj with
      |false=>rfl
      |true=>
       have:=lQ _ _ hlm hTd oO hb
       rw[jC,hT]at this
       omega
     ·simp only[decide_eq_false_iff_not]
      intro hb
      rw[hb,jC]at hT
      omega
   ·constructor
    ·rintro⟨h,_⟩;exact absurd h hl
    ·intro h
     exfalso
     have h1:=(dh (bx w) 0 hTd).2
     have h2:=mz w
     have h3:(10:Nat)^(bx w).length≤10^9:=Nat.pow_le_pow_right (by omega) (by omega)
     rw[hT]at h1
     omega
  by_cases hm:2147483647<valD 0 w
  ·rw[if_pos (key.2 hm),if_pos (Or.inr (Or.inr (by rw[hN];omega)))]
  ·rw[if_neg (fun h=>hm (key.1 h)),if_neg (by rw[hN,hK];simp;omega),hN,La hd h0]
theorem IN {x:Int}:Lib.itoa x=[48]↔x=0:=by
 constructor
 ·intro h
  by_cases h0:0≤x
  ·obtain⟨m,rfl⟩: ∃m:Nat,x=(m:Int):=⟨x.toNat,by omega⟩
   rw[jO]at h
   by_cases h9:m<10
   ·rw[Lib.decDigits_one h9]at h
    injection h with h _
    have:=congrArg UInt8.toNat h
    rw[UInt8.toNat_ofNat_of_lt' (by show 48+m<256;omega)]at this
    have h48:(48:UInt8).toNat=48:=rfl
    omega
   ·have hl:=congrArg List.length h
    rw[Lib.decDigits,dif_neg h9]at hl
    have:=Lib.nDigits_pos (m / 10)
    rw[List.length_append,Lib.decDigits_length]at hl
    simp at hl
    omega
  ·obtain⟨m,rfl⟩: ∃m:Nat,x= -(m:Int):=⟨(-x).toNat,by omega⟩
   rw[tN (by omega)]at h
   injection h with h _
   exact absurd h (by decide)
 ·intro h
  subst h
  have:(0:Int)=((0:Nat):Int):=rfl
  rw[this,jO,Lib.decDigits_one (by omega)]
  rfl
theorem sm {D:List UInt8}(hd: ∀b∈D,ay b=true):Lib.trimPrefix D [45]=D∧Lib.trimPrefix ([45]++D) [45]=D:=by
 constructor
 ·cases D with
  |nil=>rfl
  |cons c r=>
   have:c≠45:=by rintro rfl;exact absurd (hd _ List.mem_cons_self) (by decide)
   have h2:(45 == c)=false:=by simpa using fun h:45=c=>this h.symm
   simp[Lib.trimPrefix,Lib.hasPrefix,List.isPrefixOf,h2]
 ·simp[Lib.trimPrefix,Lib.hasPrefix,List.isPrefixOf]
theorem IL {whole part digits:List UInt8}{letter:UInt8}{e:Nat}:dq whole part 1 0 e=e7 whole part digits letter false e:=by
 unfold dq e7 nM dT fi eZ
 rw[w7,Ap,u3,sA]
 by_cases h30:30<(br whole).length+(bn part).length
 ·simp[h30]
 ·simp[h30]
theorem wH {whole part:List UInt8}{e m:Nat}(he:(aY false s e).2.2.2=true):(if 3<(aV false s e).length then .error 7 else dq whole part (if(aY false s e).1=68 then 2 else 1) (dj s e) m)=e7 whole part (aY false s e).2.1 (aY false s e).1 true m:=by
 have hL:bZ false s e=69∨bZ false s e=68:=by
  unfold aY at he
  split at he
  ·assumption
  ·simp at he
 have hx:aY false s e=(bZ false s e,cO false s e++aV false s e,runE false ay s (expStart false s e),!decide (aV false s e=[])):=by unfold aY;rw[if_pos hL]
 have hne:aV false s e≠[]:=by
  rw[hx]at he
  simpa using he
 have hdig: ∀b∈aV false s e,ay b=true:=iD
 rw[hx]
 simp only
 have hlt:e<s.length:=by
  rcases Nat.lt_or_ge e s.length with h|h
  ·exact h
  ·exfalso
   unfold bZ at hL
   rw[cg,List.getElem?_eq_none h]at hL
   exact absurd hL (by decide)
 have hE:atE false s e=e+1:=by rw[dp,if_pos hlt]
 have hS:cO false s e=if atC false s (e+1)=45 then [45]else []:=by unfold cO;rw[hE]
 have hpre:Lib.trimPrefix (cO false s e++aV false s e) [45]=aV false s e:=by
  rw[hS]
  split
  ·exact(sm hdig).2
  ·exact(sm hdig).1
 unfold e7 nM
 rw[hpre]
 by_cases h3:3<(aV false s e).length
 ·simp[h3]
 ·rw[if_neg h3]
  have hval:cw (cO false s e++aV false s e)=dj s e:=by
   unfold dj
   rw[hS]
   by_cases h45:atC false s (e+1)=45
   ·rw[if_pos h45,if_pos h45]
    unfold cw
    rw[List.singleton_append,ua hdig hne (by omega)]
   ·rw[if_neg h45,if_neg h45]
    unfold cw
    rw[List.nil_append,f7 hdig hne (by omega)]
  unfold dq dT fi eZ
  rw[w7,Ap,u3,sA,hval]
  by_cases h30:30<(br whole).length+(bn part).length
  ·simp[h30]
  ·have hz:=IN (x:=dj s e)
   have h3d:decide (3<(aV false s e).length)=false:=by simp[h3]
   have h30d:decide (30<(br whole).length+(bn part).length)=false:=by simp[h30]
   rw[if_neg h30,h3d,h30d]
   simp only[Bool.false_and,Bool.or_self,Bool.false_eq_true,if_false,and_true,if_true]
   by_cases h68:bZ false s e=68
   ·rw[if_pos h68,if_pos rfl,if_pos h68]
   ·rw[if_neg h68,if_neg (by decide),if_neg h68]
    by_cases h0:dj s e=0
    ·rw[if_neg (by simp[h0]),if_pos (hz.2 h0)]
    ·rw[if_pos h0,if_neg (fun h=>h0 (hz.1 h))]
     simp
theorem oq {c:UInt8}(h:s[n]? =some c)(hc:ay c=true∨(c=46∧ay ((s[n+1]?).getD 0)=true)):f9 s n=db false s n:=by
 have hn:=fE h
 have hw:=nF (s:=s) (n:=n) (by omega)
 have hwhole:bT false s n=(s.drop n).take (digR s n):=(jT).1
 have hrun:runE false ay s n=n+digR s n:=(jT).2
 have hdig: ∀b∈bT false s n,ay b=true:=iD
 have hwl:(bT false s n).length=digR s n:=by rw[hwhole];simp;omega
 have hdot:(!jV s n&&decide (s[n+digR s n]? =some 46))=cS false s n:=by
  unfold cS jV
  rw[hrun]
  by_cases h46:s[n+digR s n]? =some 46
  ·have ha:atC false s (n+digR s n)=46:=by rw[cg,h46];rfl
   rw[Hp ha,ha]
   have:decide (bT false s n=[])= !decide (0<digR s n):=by
    by_cases h0:0<digR s n
    ·have:bT false s n≠[]:=by intro hh;rw[hh]at hwl;simp at hwl;omega
     simp[h0,this]
    ·have:bT false s n=[]:=List.eq_nil_of_length_eq_zero (by omega)
     simp[h0,this]
   rw[this]
   simp only[h46,decide_true,Bool.and_true,Bool.true_and]
   cases decide (0<digR s n)<;>cases (ck false s (n+digR s n)).2.2<;>rfl
  ·have ha:atC false s (n+digR s n)≠46:=by
    rw[cg]
    cases hg:s[n+digR s n]? with
    |none=>decide
    |some x=>intro hh;apply h46;rw[hg];simpa using hh
   simp[h46,ha]
 have hdotne:cS false s n=false→bT false s n≠[]:=by
  intro hf hnil
  rcases hc with hc|⟨hc1,hc2⟩
  ·have:digR s n=0:=by rw[←hwl,hnil];rfl
   unfold digR at this
   rw[List.drop_eq_getElem_cons hn,List.takeWhile_cons]at this
   rw[List.getElem?_eq_getElem hn]at h
   injection h with h
   rw[h,hc]at this
   simp at this
  ·unfold cS at hf
   have h0:digR s n=0:=by rw[←hwl,hnil];rfl
   have ha:atC false s (n+digR s n)=46:=by rw[h0,Nat.add_zero,cg,h,hc1];rfl
   rw[hrun,ha,hnil]at hf
   simp at hf
 unfold f9 db
 rw[hdot,←hwhole]
 cases hD:cS false s n with
 |true=>
  have hlt:n+digR s n<s.length:=by
   have:=hdot
   rw[hD,Bool.and_eq_true,decide_eq_true_eq]at this
   exact fE this.2
  have hE:atE false s (n+digR s n)=n+digR s n+1:=by rw[dp,if_pos hlt]
  have hend:numEnd false s n=n+digR s n+1+digR s (n+digR s n+1):=by
   unfold numEnd;rw[if_pos hD,hrun,hE];exact(jT).2
  have hpart:eC false s n=(s.drop (n+digR s n+1)).take (digR s (n+digR s n+1)):=by
   unfold eC;rw[if_pos hD,hrun,hE];exact(jT).1
  rw[if_pos rfl,←hend,←hpart]
  simp only[Bool.not_true,Bool.false_and,Bool.false_eq_true,if_false]
  unfold f8
  cases hq:(aY false s (numEnd false s n)).2.2.2 with
  |true=>
   rw[if_pos rfl]
   simp only[if_true]
   exact wH hq
  |false=>
   rw[if_neg (by simp),if_pos rfl]
   exact IL
 |false=>
  have hend:numEnd false s n=n+digR s n:=by unfold numEnd;rw[if_neg (by rw[hD];simp),hrun]
  have hpart:eC false s n=[]:=by unfold eC;rw[if_neg (by rw[hD];simp)]
  rw[if_neg (by simp),←hend,hpart]
  unfold f8
  have hq1: ∀{α:Type} {x y:α},(aY false s (numEnd false s n)).2.2.2=true→(if(!false&& !(aY false s (numEnd false s n)).2.2.2)=true then x else y)=y:=by
   intro α x y h;rw[h];rfl
  have hq2: ∀{α:Type} {x y:α},(aY false s (numEnd false s n)).2.2.2=false→(if(!false&& !(aY false s (numEnd false s n)).2.2.2)=true then x else y)=x:=by
   intro α x y h;rw[h];rfl
  cases hq:(aY false s (numEnd false s n)).2.2.2 with
  |true=>
   simp only[hq,Bool.not_false,Bool.not_true,Bool.and_false,Bool.false_eq_true,if_false,if_true]
   exact wH hq
  |false=>
   simp only[hq,Bool.not_false,Bool.and_true,Bool.false_eq_true,if_false,if_true]
   exact Od hdig (hdotne hD) _
end
end Go.Abs
