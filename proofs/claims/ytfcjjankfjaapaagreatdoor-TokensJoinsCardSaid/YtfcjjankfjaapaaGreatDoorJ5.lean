/-
  The statement TokensJoinsCardSaid, proved; part 6 of 8 of its proof.
  What characters are, and whether a text is in a list.
  strings.ToUpper on bytes below 128: byte by byte.
  Words between dots, exponents, numbers.
  Exponents, INTEGER constants, numbers.
  A number as a token.
  CHARACTER constants: what stands between quotes, plainly.
  The scanner's own list and the places that it keeps; CHARACTER constants.
  The arguments of this chapter's laws.
  Hollerith constants, operators, tokens.
  Operators, tokens.
  All tokens of a text.
  Digits and the numbers that they spell: plain facts.
  The scanner in free form, plainly; words between dots, as the reference looks for them.
  The reference's small functions.
  The reference's numbers.
  The reference's number is the program's.
-/
import Derived.Test.YtfcjjankfjaapaaGreatDoorJ4
import Derived.Lib.MapLaws
import Derived.Lib.TrimAscii
import Derived.Lib.Case
import Derived.Lib.ItoaLen
import Derived.Test.YtfcjjankfjaapaaGreatDoorJ2
import Derived.Lib.IndexMore
import Derived.Lib.IndexBytes
import Derived.Lib.Replace
import Derived.Test.YtfcjjankfjaapaaGreatDoorJ3
import Derived.Lib.AtoiAllCases
set_option linter.all false
set_option linter.unusedSectionVars false
set_option linter.unusedVariables false
set_option linter.unusedSimpArgs false
set_option maxRecDepth 100000
namespace Go.Abs
open Go Go.Proofs
section
variable {μ:Mu}
theorem dI (a b:Nat):decide ((a:Int)≤(b:Int))=decide (a≤b):=by simp
theorem Ad {c:UInt8}:(ev E).call 90 [LV.int .u8 (c.toNat:Int)] μ=some (.ret (LV.bool (aV c)) μ):=by
 refine aJ ?_
 rw[VD]
 have e1:decide ((97:Int)≤(c.toNat:Int))=decide (97≤c.toNat):=dI 97 _
 have e2:decide ((c.toNat:Int)≤122)=decide (c.toNat≤122):=dI _ 122
 have e3:decide ((65:Int)≤(c.toNat:Int))=decide (65≤c.toNat):=dI 65 _
 have e4:decide ((c.toNat:Int)≤90)=decide (c.toNat≤90):=dI _ 90
 rw[e1,e2,e3,e4]
 unfold aV
 cases decide (97≤c.toNat)<;>cases decide (c.toNat≤122)<;>cases decide (65≤c.toNat)<;>rfl
theorem lJ {c:UInt8}:(ev E).call 132 [LV.int .u8 (c.toNat:Int)] μ=some (.ret (LV.bool (av c)) μ):=by
 refine aJ ?_
 rw[T6]
 have e1:decide ((48:Int)≤(c.toNat:Int))=decide (48≤c.toNat):=dI 48 _
 have e2:decide ((c.toNat:Int)≤57)=decide (c.toNat≤57):=dI _ 57
 rw[e1,e2]
 unfold av
 cases decide (48≤c.toNat)<;>rfl
theorem TU {c:UInt8}:(ev E).call 93 [LV.int .u8 (c.toNat:Int)] μ=some (.ret (LV.bool (aY c)) μ):=by
 refine aJ ?_
 rw[VE,Ad]
 simp only[ac,aq,aa,ak,am,ah,ae,aj,ay,cond_true,cond_false,Bool.not_true,Bool.not_false,au,ar,ao]
 unfold aY
 cases aV c
 ·simp only[ac,aq,aa,ak,am,ah,ae,aj,ay,cond_true,cond_false,Bool.not_true,Bool.not_false,au,ar,ao,lJ]
  cases av c
  ·simp only[ac,aq,aa,ak,am,ah,ae,aj,ay,cond_true,cond_false,Bool.not_true,Bool.not_false,au,ar,ao,Bool.false_or]
   have:decide ((c.toNat:Int)=95)=decide (c.toNat=95):=by simp;omega
   rw[this]
  ·rfl
 ·rfl
def qj (x:List UInt8):List (List UInt8)→Nat→Int
 |[],_=> -1
 |a::r,j=>if x=a then(j:Int)else qj x r (j+1)
theorem vF (x:List UInt8): ∀(l:List (List UInt8)) (j:Nat),decide (0≤qj x l j)=l.contains x
 |[],j=>rfl
 |a::r,j=>by
  unfold qj
  by_cases h:x=a
  ·simp[h]
  ·have h1:(x == a)=false:=by simp[h]
   rw[if_neg h,vF x r (j+1),List.contains_cons,h1,Bool.false_or]
noncomputable def Hf (n:Int)(μ:Mu):St:=if n= -1 then vx μ else vw n μ
theorem SI {l:List (List UInt8)}{x:List UInt8}(hl:l.length≤1000000): ∀(k j:Nat),j+k=l.length→
  GR (ev E) (bw l) x (l.length:Int) (j:Int) μ=some (Hf (qj x (l.drop j) j) μ):=by
 intro k
 induction k with
 |zero=>
  intro j hj
  refine ba ?_
  rw[F9]
  have:List.drop j l=[]:=List.drop_eq_nil_of_le (by omega)
  have h1:decide ((j:Int)<(l.length:Int))=false:=by simp;omega
  rw[h1,this]
  rfl
 |succ k ih=>
  intro j hj
  refine ba ?_
  rw[F9]
  have hlt:j<l.length:=by omega
  have h1:decide ((j:Int)<(l.length:Int))=true:=by simp;omega
  have hd:List.drop j l=l[j]::List.drop (j+1) l:=List.drop_eq_getElem_cons hlt
  have hg:(bw l)[j]? =some (CV.str l[j]):=by simp[bw,hlt]
  have e:IntKind.wrap .i64 ((j:Int)+1)=((j+1:Nat):Int):=by rw[cu (by omega) (by omega)];omega
  rw[h1,e7,hg,hd,e]
  simp only[ac,aq,aa,ak,am,ah,ae,aj,ay,cond_true,cond_false,Bool.not_true,Bool.not_false,au,ar,ao,g7,qj]
  by_cases h:x=l[j]
  ·rw[if_pos h]
   have:decide (x=l[j])=true:=by simp[h]
   rw[this,cond_true,Hf,if_neg (by omega)]
  ·rw[if_neg h]
   have:decide (x=l[j])=false:=by simp[h]
   rw[this,cond_false,ih (j+1) (by omega)]
theorem MN {l:List (List UInt8)}{x:List UInt8}(hl:l.length≤1000000):aC E (ev E) 94 [LV.cv (CV.sl (bw l)),LV.str x] μ=some (.ret (LV.int .i64 (qj x l 0)) μ):=by
  have e:(bw l).length=l.length:=by simp[bw]
  have:=SI (μ:=μ) (l:=l) (x:=x) hl l.length 0 (by omega)
  rw[List.drop_zero]at this
  rw[VF,e]
  have e0:((0:Nat):Int)=(0:Int):=rfl
  rw[←e0,this,aa,Hf]
  by_cases h:qj x l 0= -1
  ·rw[if_pos h,IZ,h]
  ·rw[if_neg h,IY]
theorem TV {l:List (List UInt8)}{x:List UInt8}(hl:l.length≤1000000):(ev E).call 94 [LV.cv (CV.sl (bw l)),LV.str x] μ=some (.ret (LV.int .i64 (qj x l 0)) μ):=aJ (MN hl)
theorem wW {l:List (List UInt8)}{x:List UInt8}(hl:l.length≤1000000):(ev E).call 50 [LV.cv (CV.sl (bw l)),LV.str x] μ=some (.ret (LV.bool (l.contains x)) μ):=by
 refine aJ ?_
 rw[Vh,TV hl]
 simp only[ac,aq,aa,ak,am,ah,ae,aj,ay,cond_true,cond_false,Bool.not_true,Bool.not_false,au,ar,ao]
 rw[vF]
end
end Go.Abs
set_option linter.unusedVariables false
set_option linter.unusedSimpArgs false
set_option maxRecDepth 100000
namespace Go.Abs
open Go Go.Proofs
def upB (c:UInt8):UInt8:=if 97≤c.toNat∧c.toNat≤122 then c-32 else c
theorem RA: ∀i:Fin 128,(if 0≤Lib.toUpperU (i.val:Int)then Lib.encodeRune (Lib.toUpperU (i.val:Int))else [])=[upB (UInt8.ofNat i.val)]:=by decide
theorem kZ: ∀(l:List UInt8),(∀b∈l,b.toNat<128)→Lib.toUpperD l=l.map upB
 |[],_=>rfl
 |b::t,ha=>by
  have hb:=ha b List.mem_cons_self
  have ih:=kZ t (fun x hx=>ha x (List.mem_cons_of_mem _ hx))
  have h1:=RA ⟨b.toNat,hb⟩
  simp only at h1
  unfold Lib.toUpperD at ih ⊢
  rw[Lib.mapD_step Lib.toUpperU (b::t) (by simp),Lib.decodeL_ascii b t hb]
  dsimp only
  rw[h1,List.drop_succ_cons,List.drop_zero,ih]
  simp
theorem vY {fx:Bool}{p:UInt8→Bool}: ∀(l:List UInt8) (k:Nat),∀b∈(eY fx p l k).1,p b=true
 |[],k,b,hb=>by simp[eY]at hb
 |c::r,k,b,hb=>by
  unfold eY at hb
  split at hb
  ·exact vY r (k+1) b hb
  ·split at hb
   ·rename_i h
    simp only[List.mem_cons]at hb
    rcases hb with rfl|hb
    ·simp only[Bool.and_eq_true]at h;exact h.2
    ·exact vY r 0 b hb
   ·simp at hb
theorem im {fx:Bool}{p:UInt8→Bool}{s:List UInt8}{n:Nat}: ∀b∈cw fx p s n,p b=true:=vY _ _
end Go.Abs
set_option linter.unusedVariables false
set_option linter.unusedSimpArgs false
set_option maxRecDepth 100000
namespace Go.Abs
open Go Go.Proofs
def bK:List (List UInt8):=[[46,76,84,46],[46,76,69,46],[46,69,81,46],[46,78,69,46],[46,71,69,46],[46,71,84,46],[46,78,79,84,46],[46,65,78,68,46],[46,79,82,46],[46,69,81,86,46],[46,78,69,81,86,46]]
def bj:List (List UInt8):=[[42,42],[47,47],[61,62],[42],[47],[43],[45],[40],[41],[44],[58],[61],[37]]
def fe:List UInt8:=[46,84,82,85,69,46]
def en:List UInt8:=[46,70,65,76,83,69,46]
abbrev up (s:List UInt8):List UInt8:=Lib.toUpperD s
theorem tJ {fx:Bool}{p:UInt8→Bool}: ∀(l:List UInt8) (k:Nat),(eY fx p l k).1.length≤l.length∧(eY fx p l k).2≤k+l.length
 |[],k=>⟨Nat.le_refl _,by simp[eY]⟩
 |c::r,k=>by
  unfold eY
  have h1:=tJ (fx:=fx) (p:=p) r (k+1)
  have h2:=tJ (fx:=fx) (p:=p) r 0
  split
  ·simp only[List.length_cons];omega
  ·split
   ·simp only[List.length_cons];omega
   ·simp
section
variable {μ:Mu}{l i:Nat}{s:List UInt8}{fx:Bool}{r:List LV}
theorem iG {p:UInt8→Bool}{n:Nat}(hn:n≤s.length):runE fx p s n≤s.length:=by
 have:=(tJ (fx:=fx) (p:=p) (s.drop n) 0).2
 rw[List.length_drop]at this
 unfold runE
 omega
theorem jl {p:UInt8→Bool}{n:Nat}:(cw fx p s n).length≤s.length:=by
 have:=(tJ (fx:=fx) (p:=p) (s.drop n) 0).1
 rw[List.length_drop]at this
 unfold cw
 omega
theorem ld {c:UInt8}(h:aV c=true):c.toNat<128:=by
 simp only[aV,Bool.or_eq_true,Bool.and_eq_true,decide_eq_true_eq]at h
 omega
theorem Tf {n:Nat}:Lib.toUpperD (cw fx aV s n)=(cw fx aV s n).map upB:=kZ _ fun b hb=>ld (im b hb)
theorem PH:(ev E).call 51 [] μ=some (.ret (LV.osl (bw bK)) μ):=aJ (by rw[Vi];rfl)
theorem Ht:(ev E).call 52 [] μ=some (.ret (LV.osl (bw bj)) μ):=aJ (by rw[Vj];rfl)
def cP (fx:Bool)(s:List UInt8)(n:Nat):List UInt8:=[46]++up (cw fx aV s (atE fx s n))++[46]
def dotEnd (fx:Bool)(s:List UInt8)(n:Nat):Nat:=atE fx s (runE fx aV s (atE fx s n))
def dY (fx:Bool)(s:List UInt8)(n:Nat):Bool:=decide (atC fx s (runE fx aV s (atE fx s n))=46)&&(bK.contains (cP fx s n)||decide (cP fx s n=fe)||decide (cP fx s n=en))
def br (fx:Bool)(s:List UInt8)(n:Nat):List UInt8×Nat×Bool:=if atC fx s n=46 then(cP fx s n,dotEnd fx s n,dY fx s n)else([],n,false)
theorem cq {c:UInt8}{k:Nat}(hk:k<256):decide ((c.toNat:Int)=(k:Int))=decide (c=UInt8.ofNat k):=by
 have h2:(UInt8.ofNat k).toNat=k:=by simp[hk]
 by_cases h:c=UInt8.ofNat k
 ·subst h
  rw[h2];simp
 ·have h1:c.toNat≠k:=fun e=>h (UInt8.toNat.inj (by rw[e,h2]))
  simp only[h,decide_false,decide_eq_false_iff_not]
  omega
theorem LF (h:Sc μ l i s fx r)(hs:s.length≤200000){n:Nat}(hn:n≤s.length):
  (ev E).call 172 [LV.cv (CV.ref l i 0),LV.int .i64 (n:Int)] μ=some (.ret (.ltup [LV.str (br fx s n).1,LV.int .i64 ((br fx s n).2.1:Nat),LV.bool (br fx s n).2.2]) μ):=by
 refine aJ ?_
 rw[Uh,hZ h (by omega) hn]
 have e46: ∀c:UInt8,decide ((c.toNat:Int)=46)=decide (c=46):=fun c=>cq (k:=46) (by omega)
 simp only[ac,aq,aa,ak,am,ah,ae,aj,ay,cond_true,cond_false,Bool.not_true,Bool.not_false,au,ar,ao,e46]
 by_cases hc:atC fx s n=46
 ·have hle:=gv (fx:=fx) hn
  have hle2:=iG (fx:=fx) (p:=aV) hle
  have hr:=jl (fx:=fx) (s:=s) (p:=aV) (n:=atE fx s n)
  have hu:(Lib.toUpperD (cw fx aV s (atE fx s n))).length≤s.length:=by rw[Tf,List.length_map];exact hr
  have hG:Jy (ev E) l i (atE fx s n:Nat) μ=some (f8 (cP fx s n) (dotEnd fx s n:Nat) (dY fx s n) μ):=by
   refine aT ?_
   rw[N5,oT h (by omega) (fun c=>Ad) hle]
   simp only[ac,aq,aa,ak,am,ah,ae,aj,ay,cond_true,cond_false,Bool.not_true,Bool.not_false,au,ar,ao]
   rw[hZ h (by omega) hle2]
   simp only[ac,aq,aa,ak,am,ah,ae,aj,ay,cond_true,cond_false,Bool.not_true,Bool.not_false,au,ar,ao]
   rw[Hx (by omega)]
   simp only[ac,aq,aa,ak,am,ah,ae,aj,ay,cond_true,cond_false,Bool.not_true,Bool.not_false,au,ar,ao]
   rw[bq (by simp;omega),bq (by simp;omega)]
   simp only[ac,aq,aa,ak,am,ah,ae,aj,ay,cond_true,cond_false,Bool.not_true,Bool.not_false,au,ar,ao,PH]
   rw[wW (l:=bK) (by decide)]
   simp only[ac,aq,aa,ak,am,ah,ae,aj,ay,cond_true,cond_false,Bool.not_true,Bool.not_false,au,ar,ao,e46]
   have ht:[46]++Lib.toUpperD (cw fx aV s (atE fx s n))++[46]=cP fx s n:=rfl
   have h3:([46,84,82,85,69,46]:List UInt8)=fe:=rfl
   have h4:([46,70,65,76,83,69,46]:List UInt8)=en:=rfl
   rw[ht,h3,h4]
   unfold dY
   have he:atE fx s (runE fx aV s (atE fx s n))=dotEnd fx s n:=rfl
   rw[he]
   cases bK.contains (cP fx s n)<;>cases decide (cP fx s n=fe)<;>cases decide (atC fx s (runE fx aV s (atE fx s n))=46)<;>simp
  rw[hG]
  simp only[hc,decide_true,ac,aq,aa,ak,am,ah,ae,aj,ay,cond_true,cond_false,Bool.not_true,Bool.not_false,au,ar,ao,DA,br,if_true]
 ·simp only[hc,decide_false,ac,aq,aa,ak,am,ah,ae,aj,ay,cond_true,cond_false,Bool.not_true,Bool.not_false,au,ar,ao,br,if_false]
end
end Go.Abs
set_option linter.unusedVariables false
set_option linter.unusedSimpArgs false
set_option maxRecDepth 100000
namespace Go.Abs
open Go Go.Proofs
section
variable {μ:Mu}{l i:Nat}{s:List UInt8}{fx:Bool}{r:List LV}
theorem C4: ∀i:Fin 256,IntKind.wrap .u8 ((BitVec.ofInt (IntKind.bits .u8) (i.val:Int) &&& ~~~BitVec.ofInt (IntKind.bits .u8) (32:Int)).toNat:Int)=(((UInt8.ofNat i.val) &&& 223).toNat:Int):=by decide
theorem Qn (c:UInt8):IntKind.wrap .u8 ((BitVec.ofInt (IntKind.bits .u8) (c.toNat:Int) &&& ~~~BitVec.ofInt (IntKind.bits .u8) (32:Int)).toNat:Int)=((c &&& 223).toNat:Int):=by
 have:=C4 ⟨c.toNat,c.toNat_lt⟩
 simpa using this
def ce (fx:Bool)(s:List UInt8)(n:Nat):UInt8:=atC fx s n &&& 223
def cp (fx:Bool)(s:List UInt8)(n:Nat):List UInt8:=if atC fx s (atE fx s n)=45 then [45]else []
def expStart (fx:Bool)(s:List UInt8)(n:Nat):Nat:=if atC fx s (atE fx s n)=43∨atC fx s (atE fx s n)=45 then atE fx s (atE fx s n)else atE fx s n
def aR (fx:Bool)(s:List UInt8)(n:Nat):List UInt8:=cw fx av s (expStart fx s n)
def aP (fx:Bool)(s:List UInt8)(n:Nat):UInt8×List UInt8×Nat×Bool:=
 if ce fx s n=69∨ce fx s n=68 then(ce fx s n,cp fx s n++aR fx s n,runE fx av s (expStart fx s n),!decide (aR fx s n=[]))else(0,[],n,false)
theorem Sb (h:Sc μ l i s fx r)(hs:s.length≤200000){n:Nat}(hn:n≤s.length):
  (ev E).call 191 [LV.cv (CV.ref l i 0),LV.int .i64 (n:Int)] μ=some (.ret (.ltup [LV.int .u8 ((aP fx s n).1.toNat:Int),LV.str (aP fx s n).2.1,LV.int .i64 ((aP fx s n).2.2.1:Nat),LV.bool (aP fx s n).2.2.2]) μ):=by
 have e69: ∀c:UInt8,decide ((c.toNat:Int)=69)=decide (c=69):=fun c=>cq (k:=69) (by omega)
 have e68: ∀c:UInt8,decide ((c.toNat:Int)=68)=decide (c=68):=fun c=>cq (k:=68) (by omega)
 have e43: ∀c:UInt8,decide ((c.toNat:Int)=43)=decide (c=43):=fun c=>cq (k:=43) (by omega)
 have e45: ∀c:UInt8,decide ((c.toNat:Int)=45)=decide (c=45):=fun c=>cq (k:=45) (by omega)
 have hle:=gv (fx:=fx) hn
 have hle2:=gv (fx:=fx) hle
 have hst:expStart fx s n≤s.length:=by unfold expStart;split<;>assumption
 have hr:=jl (fx:=fx) (s:=s) (p:=av) (n:=expStart fx s n)
 have hG: ∀(sg:List UInt8),sg.length≤1→mB (ev E) l i ((ce fx s n).toNat:Int) (expStart fx s n:Nat) sg μ=some (pC ((ce fx s n).toNat:Int) (sg++aR fx s n) (runE fx av s (expStart fx s n):Nat) (!decide (aR fx s n=[])) μ):=by
  intro sg hsg
  refine aT ?_
  rw[L7,oT h (by omega) (fun c=>lJ) hst]
  simp only[ac,aq,aa,ak,am,ah,ae,aj,ay,cond_true,cond_false,Bool.not_true,Bool.not_false,au,ar,ao]
  rw[bq (by omega)]
  rfl
 have hG5:Ay (ev E) l i ((ce fx s n).toNat:Int) (atE fx s n:Nat) μ=some (rp ((ce fx s n).toNat:Int) (cp fx s n++aR fx s n) (runE fx av s (expStart fx s n):Nat) (!decide (aR fx s n=[])) μ):=by
  refine aT ?_
  rw[Oa,hZ h (by omega) hle]
  simp only[ac,aq,aa,ak,am,ah,ae,aj,ay,cond_true,cond_false,Bool.not_true,Bool.not_false,au,ar,ao,e43,e45]
  by_cases h1:atC fx s (atE fx s n)=43
  ·have hx:expStart fx s n=atE fx s (atE fx s n):=by simp[expStart,h1]
   have hg:cp fx s n=[]:=by simp[cp,h1]
   have:=hG [] (by simp)
   rw[hx]at this
   simp only[h1,decide_true,ac,aq,aa,ak,am,ah,ae,aj,ay,cond_true,cond_false,Bool.not_true,Bool.not_false,au,ar,ao,hg]
   have h2:decide ((43:UInt8)=45)=false:=by decide
   rw[h2,cond_false,this,aa,nf,hx]
  ·by_cases h2:atC fx s (atE fx s n)=45
   ·have hx:expStart fx s n=atE fx s (atE fx s n):=by simp[expStart,h2]
    have hg:cp fx s n=[45]:=by simp[cp,h2]
    have:=hG [45] (by simp)
    rw[hx]at this
    have h3:decide ((45:UInt8)=43)=false:=by decide
    simp only[h2,h3,decide_true,ac,aq,aa,ak,am,ah,ae,aj,ay,cond_true,cond_false,Bool.not_true,Bool.not_false,au,ar,ao,hg]
    rw[this,aa,nf,hx]
   ·have hx:expStart fx s n=atE fx s n:=by simp[expStart,h1,h2]
    have hg:cp fx s n=[]:=by simp[cp,h2]
    have:=hG [] (by simp)
    rw[hx]at this
    simp only[h1,h2,decide_false,ac,aq,aa,ak,am,ah,ae,aj,ay,cond_true,cond_false,Bool.not_true,Bool.not_false,au,ar,ao,hg]
    rw[this,aa,nf,hx]
 refine aJ ?_
 rw[Um,hZ h (by omega) hn]
 simp only[ac,aq,aa,ak,am,ah,ae,aj,ay,cond_true,cond_false,Bool.not_true,Bool.not_false,au,ar,ao,Qn]
 have hL:atC fx s n &&& 223=ce fx s n:=rfl
 rw[hL]
 simp only[e69,e68]
 by_cases h1:ce fx s n=69
 ·have:aP fx s n=(ce fx s n,cp fx s n++aR fx s n,runE fx av s (expStart fx s n),!decide (aR fx s n=[])):=by simp[aP,h1]
  rw[this,hG5]
  simp only[h1,decide_true,ac,aq,aa,ak,am,ah,ae,aj,ay,cond_true,cond_false,Bool.not_true,Bool.not_false,au,ar,ao]
  rw[←h1,ud]
 ·by_cases h2:ce fx s n=68
  ·have:aP fx s n=(ce fx s n,cp fx s n++aR fx s n,runE fx av s (expStart fx s n),!decide (aR fx s n=[])):=by simp[aP,h2]
   rw[this,hG5]
   have h3:decide ((68:UInt8)=69)=false:=by decide
   simp only[h2,h3,decide_true,ac,aq,aa,ak,am,ah,ae,aj,ay,cond_true,cond_false,Bool.not_true,Bool.not_false,au,ar,ao]
   rw[←h2,ud]
  ·have:aP fx s n=(0,[],n,false):=by simp[aP,h1,h2]
   rw[this]
   simp only[h1,h2,decide_false,ac,aq,aa,ak,am,ah,ae,aj,ay,cond_true,cond_false,Bool.not_true,Bool.not_false,au,ar,ao]
   rfl
structure Tok where
 kind:Int
 type:Int
 text:List UInt8
 deriving DecidableEq
def Tok.cv (t:Tok):CV:=CV.agg [CV.int .i64 t.kind,CV.int .i64 t.type,CV.str t.text]
def gR (e:Int):CV:=CV.iface 162 (CV.agg [CV.int .i64 e])
theorem j4 {e:Int}:(ev E).call 170 [LV.int .i64 e] μ=some (.panic (gR e) μ):=aJ (by rw[Uf];rfl)
def bi (s:List UInt8):List UInt8:=if s=[]then [48]else s
def dr (s:List UInt8):List UInt8:=Lib.trimLeftB s 48
def bT (s:List UInt8):List UInt8:=Lib.trimRightB s 48
theorem Sk {t:List UInt8}:(ev E).call 65 [LV.str t,LV.bool true] μ=some (.ret (LV.str (bi (dr t))) μ):=by
 refine aJ ?_
 rw[SR,PK (by decide)]
 simp only[ac,aq,aa,ak,am,ah,ae,aj,ay,cond_true,cond_false,Bool.not_true,Bool.not_false,au,ar,ao,bi,dr]
 by_cases h:Lib.trimLeftB t 48=[]<;>simp[h]
theorem Sl {t:List UInt8}(ht:t.length≤1000000):(ev E).call 65 [LV.str t,LV.bool false] μ=some (.ret (LV.str (bi (bT t))) μ):=by
 refine aJ ?_
 rw[SR,PL (by decide) ht]
 simp only[ac,aq,aa,ak,am,ah,ae,aj,ay,cond_true,cond_false,Bool.not_true,Bool.not_false,au,ar,ao,bi,bT]
 by_cases h:Lib.trimRightB t 48=[]<;>simp[h]
theorem zC (t:List UInt8):(dr t).length≤t.length:=by
 unfold dr Lib.trimLeftB
 exact(List.dropWhile_suffix _).length_le
theorem zD (t:List UInt8):(bT t).length≤t.length:=by
 unfold bT Lib.trimRightB
 rw[List.length_reverse]
 exact Nat.le_trans (List.dropWhile_suffix _).length_le (by simp)
theorem Se {a b:List UInt8}(ha:a.length≤1000000)(hb:b.length≤1000000):(ev E).call 193 [LV.str a,LV.str b] μ=some (.ret (LV.int .i64 ((dr a).length+(bT b).length:Nat)) μ):=by
 refine aJ ?_
 rw[Uo,PK (by decide)]
 simp only[ac,aq,aa,ak,am,ah,ae,aj,ay,cond_true,cond_false,Bool.not_true,Bool.not_false,au,ar,ao]
 rw[PL (by decide) hb]
 simp only[ac,aq,aa,ak,am,ah,ae,aj,ay,cond_true,cond_false,Bool.not_true,Bool.not_false,au,ar,ao]
 have h1:=zC a
 have h2:=zD b
 have e1:Lib.trimLeftB a 48=dr a:=rfl
 have e2:Lib.trimRightB b 48=bT b:=rfl
 rw[e1,e2,cu (by omega) (by omega)]
 simp
def b7 (s:List UInt8):Int:=match Lib.atoiAll s with| .ok v=>v| .range=>Lib.atoiSat s|_=>0
def ja (s:List UInt8):Bool:=match Lib.atoiAll s with| .ok _=>true|_=>false
def zY (s:List UInt8):CV:=match ja s with|true=> .v .nilIface|false=> .iface 146 .undef
theorem p4 (s:List UInt8):ww 146 s= .ltup [LV.int .i64 (b7 s),.cv (zY s)]:=by
 unfold ww zY b7 ja
 cases Lib.atoiAll s<;>rfl
theorem I5 (s:List UInt8):Ai (.cv (zY s))=some (ja s):=by
 unfold zY
 cases ja s<;>rfl
theorem iS (s:List UInt8): -9223372036854775808≤b7 s∧b7 s≤9223372036854775807:=by
 unfold b7
 split
 ·rename_i v h
  unfold Lib.atoiAll at h
  cases s with
  |nil=>cases h
  |cons c r=>
   simp only at h
   split at h
   ·cases h
   ·cases h
   ·rename_i u hu
    split at h
    ·cases h
    ·rename_i h1
     split at h
     ·cases h
     ·rename_i h2
      injection h with h
      subst h
      split<;>omega
 ·unfold Lib.atoiSat
  split<;>omega
 ·omega
theorem fi {c:CV}:dm (.cv c)=some c:=rfl
def S1 (μ:Mu):Except Int Tok→Out
 | .ok t=> .ret (.cv t.cv) μ
 | .error e=> .panic (gR e) μ
def cg (d:List UInt8):Except Int Tok:=if 10<d.length∨ja d=false∨2147483647<b7 d then .error 28 else .ok ⟨1,0,Lib.itoa (b7 d)⟩
theorem CW {n:Nat}{e:Int}:below n (gR e)=true:=rfl
theorem Sd {d:List UInt8}(hd:d.length≤1000000):(ev E).call 192 [LV.str d] μ=some (S1 μ (cg d)):=by
 refine aJ ?_
 rw[Un,Aa hd,p4]
 have hr:=iS d
 simp only[ac,aq,aa,ak,am,ah,ae,aj,ay,cond_true,cond_false,Bool.not_true,Bool.not_false,au,ar,ao,fi,j4,eh,CW]
 by_cases h1:10<d.length
 ·have e1:decide ((10:Int)<(d.length:Int))=true:=by simp;omega
  have e2:cg d= .error 28:=by simp[cg,h1]
  rw[e1,e2,cond_true]
  rfl
 ·have e1:decide ((10:Int)<(d.length:Int))=false:=by simp;omega
  rw[e1,cond_false,I5,aa]
  cases h2:ja d with
  |false=>
   have e2:cg d= .error 28:=by simp[cg,h2]
   rw[e2];rfl
  |true=>
   simp only[ac,aq,aa,ak,am,ah,ae,aj,ay,cond_true,cond_false,Bool.not_true,Bool.not_false,au,ar,ao]
   by_cases h3:2147483647<b7 d
   ·have e2:cg d= .error 28:=by simp[cg,h3]
    have e3:decide (2147483647<b7 d)=true:=by simp[h3]
    rw[e2,e3];rfl
   ·have e2:cg d= .ok ⟨1,0,Lib.itoa (b7 d)⟩:=by simp[cg,h1,h2,h3]
    have e3:decide (2147483647<b7 d)=false:=by simp[h3]
    rw[e2,e3,cond_false,PM hr.1 hr.2]
    rfl
end
end Go.Abs
set_option linter.unusedVariables false
set_option linter.unusedSimpArgs false
set_option maxRecDepth 100000
namespace Go.Abs
open Go Go.Proofs
def sD (μ:Mu):Except Int (Tok×Nat)→Out
 | .ok q=> .ret (.ltup [.cv q.1.cv,LV.int .i64 (q.2:Int)]) μ
 | .error e=> .panic (gR e) μ
def ed (whole part:List UInt8):List UInt8:=bi (dr whole)++[46]++bi (bT part)
def ey (digits:List UInt8)(ok:Bool):List UInt8:=if ok then Lib.itoa (b7 digits)else [48]
def dh (text pow:List UInt8)(letter:UInt8)(ok:Bool):Tok:=
 if letter=68∧ok=true then⟨1,2,text++[68]++pow⟩else if pow=[48]then⟨1,1,text⟩else⟨1,1,text++([69]++pow)⟩
def jH (whole part digits:List UInt8)(ok:Bool):Bool:=decide (30<(dr whole).length+(bT part).length)||(decide (3<(Lib.trimPrefix digits [45]).length)&&ok)
def real (whole part digits:List UInt8)(letter:UInt8)(ok:Bool)(e:Nat):Except Int (Tok×Nat):=
 if jH whole part digits ok then .error 7 else .ok (dh (ed whole part) (ey digits ok) letter ok,e)
def bG (fx:Bool)(s:List UInt8)(n:Nat):List UInt8:=cw fx av s n
def cr (fx:Bool)(s:List UInt8)(n:Nat):Bool:=decide (atC fx s (runE fx av s n)=46)&&(!(br fx s (runE fx av s n)).2.2||decide (bG fx s n=[]))
def dg (fx:Bool)(s:List UInt8)(n:Nat):List UInt8:=if cr fx s n then cw fx av s (atE fx s (runE fx av s n))else []
def numEnd (fx:Bool)(s:List UInt8)(n:Nat):Nat:=if cr fx s n then runE fx av s (atE fx s (runE fx av s n))else runE fx av s n
def b9 (fx:Bool)(s:List UInt8)(n:Nat):Except Int (Tok×Nat):=
 let q:=aP fx s (numEnd fx s n)
 if !cr fx s n&& !q.2.2.2 then(match cg (bG fx s n)with| .ok t=> .ok (t,numEnd fx s n)| .error e=> .error e)
 else real (bG fx s n) (dg fx s n) q.2.1 q.1 q.2.2.2 (if q.2.2.2 then q.2.2.1 else numEnd fx s n)
def stT (μ:Mu)(xr:Int→Int→Int→List UInt8→Mu→St)(xp:CV→Mu→St):Except Int (Tok×Nat)→St
 | .ok q=>xr (q.2:Int) q.1.kind q.1.type q.1.text μ
 | .error e=>xp (gR e) μ
section
variable {μ:Mu}{l i:Nat}{s:List UInt8}{fx:Bool}{r:List LV}
theorem Ux {e:Nat}{text pow:List UInt8}{a b:Int}{c:List UInt8}(h:text.length+pow.length≤1000000):
  xS (ev E) (e:Int) text pow a b c μ=some (mb (e:Int) 1 1 (if pow=[48]then text else text++([69]++pow)) μ):=by
 refine aT ?_
 rw[L4]
 by_cases hp:pow=[48]
 ·have:decide (pow=[48])=true:=by simp[hp]
  rw[this,if_pos hp];rfl
 ·have:decide (pow=[48])=false:=by simp[hp]
  rw[this,if_neg hp]
  simp only[ac,aq,aa,ak,am,ah,ae,aj,ay,cond_true,cond_false,Bool.not_true,Bool.not_false,au,ar,ao]
  rw[bq (by simp;omega),bq (by simp;omega)]
  simp only[ac,aq,aa,ak,am,ah,ae,aj,ay,cond_true,cond_false,Bool.not_true,Bool.not_false,au,ar,ao]
theorem PZ {e:Nat}{letter:UInt8}{ok:Bool}{text pow:List UInt8}{a b:Int}{c:List UInt8}(h:text.length+pow.length≤1000000):
  xR (ev E) (e:Int) (letter.toNat:Int) ok text pow a b c μ=some (ma (e:Int) (dh text pow letter ok).kind (dh text pow letter ok).type (dh text pow letter ok).text μ):=by
 have e68:decide ((letter.toNat:Int)=68)=decide (letter=68):=cq (k:=68) (by omega)
 refine aT ?_
 rw[L3,e68,Ux h,aa,B3]
 by_cases hl:letter=68
 ·cases ok with
  |true=>
   have:dh text pow letter true=⟨1,2,text++[68]++pow⟩:=by simp[dh,hl]
   rw[this]
   simp only[hl,decide_true,ac,aq,aa,ak,am,ah,ae,aj,ay,cond_true,cond_false,Bool.not_true,Bool.not_false,au,ar,ao]
   rw[bq (by simp;omega),bq (by simp;omega)]
   simp only[ac,aq,aa,ak,am,ah,ae,aj,ay,cond_true,cond_false,Bool.not_true,Bool.not_false,au,ar,ao]
  |false=>
   simp only[hl,decide_true,ac,aq,aa,ak,am,ah,ae,aj,ay,cond_true,cond_false,Bool.not_true,Bool.not_false,au,ar,ao]
   by_cases hp:pow=[48]<;>simp[dh,hp]
 ·simp only[hl,decide_false,ac,aq,aa,ak,am,ah,ae,aj,ay,cond_true,cond_false,Bool.not_true,Bool.not_false,au,ar,ao]
  by_cases hp:pow=[48]<;>simp[dh,hp,hl]
theorem iD (t:List UInt8):(bi t).length≤t.length+1:=by
 unfold bi
 split<;>simp
theorem Uw {e:Nat}{letter:UInt8}{ok:Bool}{whole part digits:List UInt8}{a b:Int}{c:List UInt8}(h1:whole.length≤200000)(h2:part.length≤200000)(h3:digits.length≤200001)(h4:(ey digits ok).length≤100):
  ox (ev E) (e:Int) whole part (letter.toNat:Int) digits ok a b c μ=some (pA (e:Int) (dh (ed whole part) (ey digits ok) letter ok).kind (dh (ed whole part) (ey digits ok) letter ok).type (dh (ed whole part) (ey digits ok) letter ok).text μ):=by
 refine aT ?_
 have k1:=zC whole
 have k2:=zD part
 have k3:=iD (dr whole)
 have k4:=iD (bT part)
 rw[L1,Sk]
 simp only[ac,aq,aa,ak,am,ah,ae,aj,ay,cond_true,cond_false,Bool.not_true,Bool.not_false,au,ar,ao]
 rw[bq (by simp;omega)]
 simp only[ac,aq,aa,ak,am,ah,ae,aj,ay,cond_true,cond_false,Bool.not_true,Bool.not_false,au,ar,ao]
 rw[Sl (by omega)]
 simp only[ac,aq,aa,ak,am,ah,ae,aj,ay,cond_true,cond_false,Bool.not_true,Bool.not_false,au,ar,ao]
 rw[bq (by simp;omega)]
 have ht:bi (dr whole)++[46]++bi (bT part)=ed whole part:=rfl
 have hl:(ed whole part).length≤400003:=by rw[←ht];simp;omega
 cases ok with
 |true=>
  have hr:=iS digits
  simp only[ac,aq,aa,ak,am,ah,ae,aj,ay,cond_true,cond_false,Bool.not_true,Bool.not_false,au,ar,ao,Aa (show digits.length≤1000000 by omega),p4,fi,PM hr.1 hr.2]
  have hp:Lib.itoa (b7 digits)=ey digits true:=rfl
  rw[hp,ht,PZ (by omega),aa,sy]
 |false=>
  simp only[ac,aq,aa,ak,am,ah,ae,aj,ay,cond_true,cond_false,Bool.not_true,Bool.not_false,au,ar,ao]
  have hp:([48]:List UInt8)=ey digits false:=rfl
  rw[hp,ht,PZ (by omega),aa,sy]
theorem yC (a b:List UInt8):(Lib.trimPrefix a b).length≤a.length:=Lib.trimPrefix_le a b
theorem PY {e:Nat}{letter:UInt8}{ok:Bool}{whole part digits:List UInt8}{a b:Int}{c:List UInt8}(h1:whole.length≤200000)(h2:part.length≤200000)(h3:digits.length≤200001)(h4:(ey digits ok).length≤100):
  xQ (ev E) (e:Int) whole part (letter.toNat:Int) digits ok a b c μ=some (stT μ pz iu (real whole part digits letter ok e)):=by
 refine aT ?_
 rw[L0,Se (by omega) (by omega)]
 simp only[ac,aq,aa,ak,am,ah,ae,aj,ay,cond_true,cond_false,Bool.not_true,Bool.not_false,au,ar,ao,j4,eh,Sf]
 have k0:=yC digits [45]
 have e30:decide ((30:Int)<(((dr whole).length+(bT part).length:Nat):Int))=decide (30<(dr whole).length+(bT part).length):=by simp;omega
 have e3:decide ((3:Int)<((Lib.trimPrefix digits [45]).length:Int))=decide (3<(Lib.trimPrefix digits [45]).length):=by simp;omega
 rw[e30,e3,Uw h1 h2 h3 h4,aa,B2]
 unfold real jH
 cases decide (30<(dr whole).length+(bT part).length)<;>cases decide (3<(Lib.trimPrefix digits [45]).length)<;>cases ok<;>rfl
theorem Uv {e x:Nat}{letter:UInt8}{ok:Bool}{whole part digits:List UInt8}{a b:Int}{c:List UInt8}(h1:whole.length≤200000)(h2:part.length≤200000)(h3:digits.length≤200001)(h4:(ey digits ok).length≤100):
  xP (ev E) (e:Int) whole part (letter.toNat:Int) digits (x:Int) ok a b c μ=some (stT μ l3 l5 (real whole part digits letter ok (if ok then x else e))):=by
 refine aT ?_
 rw[LZ]
 cases ok with
 |true=>
  rw[cond_true,PY h1 h2 h3 h4,aa]
  simp only[if_true]
  cases real whole part digits letter true x with
  |ok q=>exact sw _ _ _ _ _ _
  |error e=>exact sx _ _ _
 |false=>
  rw[cond_false,PY h1 h2 h3 h4,aa]
  simp only[Bool.false_eq_true,if_false]
  cases real whole part digits letter false e with
  |ok q=>exact sw _ _ _ _ _ _
  |error e=>exact sx _ _ _
theorem bx {β:Type}{t:Tok}{k:Int→Int→List UInt8→Option β}:cT (.cv t.cv) k=k t.kind t.type t.text:=rfl
theorem VO (h:Sc μ l i s fx r)(hs:s.length≤200000){whole part:List UInt8}{dot:Bool}{n:Nat}(hn:n≤s.length)(h1:whole.length≤200000)(h2:part.length≤200000)(h3:(aP fx s n).2.1.length≤200001)(h4:(ey (aP fx s n).2.1 (aP fx s n).2.2.2).length≤100):
  oy (ev E) l i (n:Int) whole part dot 0 0 [] μ=some (stT μ jp gU (if !dot&& !(aP fx s n).2.2.2 then(match cg whole with| .ok t=> .ok (t,n)| .error e=> .error e)else real whole part (aP fx s n).2.1 (aP fx s n).1 (aP fx s n).2.2.2 (if(aP fx s n).2.2.2 then(aP fx s n).2.2.1 else n))):=by
 refine aT ?_
 rw[N4,Sb h hs hn]
 simp only[ac,aq,aa,ak,am,ah,ae,aj,ay,cond_true,cond_false,Bool.not_true,Bool.not_false,au,ar,ao]
 rw[Uv h1 h2 h3 h4,aa,Sd (by omega)]
 have hreal:kS (ev E) cX [] [(4,0),(5,0)] (stT μ l3 l5 (real whole part (aP fx s n).2.1 (aP fx s n).1 (aP fx s n).2.2.2 (if(aP fx s n).2.2.2 then(aP fx s n).2.2.1 else n)))=
   some (stT μ jp gU (real whole part (aP fx s n).2.1 (aP fx s n).1 (aP fx s n).2.2.2 (if(aP fx s n).2.2.2 then(aP fx s n).2.2.1 else n))):=by
  cases real whole part (aP fx s n).2.1 (aP fx s n).1 (aP fx s n).2.2.2 (if(aP fx s n).2.2.2 then(aP fx s n).2.2.1 else n)with
  |ok q=>exact B0 _ _ _ _ _ _
  |error e=>exact B1 _ _ _
 rw[hreal]
 cases dot with
 |true=>rfl
 |false=>
  cases (aP fx s n).2.2.2 with
  |true=>rfl
  |false=>
   simp only[ac,aq,aa,ak,am,ah,ae,aj,ay,cond_true,cond_false,Bool.not_true,Bool.not_false,au,ar,ao,Bool.and_self,if_true]
   cases cg whole with
   |ok t=>simp only[S1,ac,bx];rfl
   |error e=>rfl
theorem Mp (digits:List UInt8)(ok:Bool):(ey digits ok).length≤100:=by
 have hr:=iS digits
 have:=Lib.itoa_length_le _ hr.1 hr.2
 unfold ey
 split
 ·omega
 ·simp
theorem LE (h:Sc μ l i s fx r)(hs:s.length≤200000){n:Nat}(hn:n≤s.length):
  (ev E).call 171 [LV.cv (CV.ref l i 0),LV.int .i64 (n:Int)] μ=some (sD μ (b9 fx s n)):=by
 have e46: ∀c:UInt8,decide ((c.toNat:Int)=46)=decide (c=46):=fun c=>cq (k:=46) (by omega)
 have hle:=iG (fx:=fx) (p:=av) hn
 have hle2:=gv (fx:=fx) hle
 have hle3:=iG (fx:=fx) (p:=av) hle2
 have hr1:=jl (fx:=fx) (s:=s) (p:=av) (n:=n)
 have hr2:=jl (fx:=fx) (s:=s) (p:=av) (n:=atE fx s (runE fx av s n))
 have hx: ∀m,(aP fx s m).2.1.length≤200001:=by
  intro m
  unfold aP
  split
  ·have:=jl (fx:=fx) (s:=s) (p:=av) (n:=expStart fx s m)
   simp only[List.length_append,cp,aR]
   split<;>simp<;>omega
  ·simp
 have fin: ∀q:Except Int (Tok×Nat),kB (ev E) 171 cX [] (stT μ jp gU q)=some (sD μ q):=by
  intro q
  cases q with
  |ok q=>exact Dy _ _ _ _ _ _
  |error e=>
   simp only[stT]
   rw[Dz]
   rfl
 have hend:numEnd fx s n≤s.length:=by unfold numEnd;split<;>assumption
 have key: ∀(dot:Bool),cr fx s n=dot→(opt (oy (ev E) l i (numEnd fx s n:Nat) (bG fx s n) (dg fx s n) dot 0 0 [] μ) (kB (ev E) 171 cX []))=some (sD μ (b9 fx s n)):=by
  intro dot hd
  rw[VO h hs hend (by unfold bG;omega) (by unfold dg;split<;>first|omega|simp) (hx _) (Mp _ _),aa,fin]
  unfold b9
  rw[hd]
 refine aJ ?_
 rw[Ug,oT h (by omega) (fun c=>lJ) hn]
 simp only[ac,aq,aa,ak,am,ah,ae,aj,ay,cond_true,cond_false,Bool.not_true,Bool.not_false,au,ar,ao]
 rw[hZ h (by omega) hle]
 simp only[ac,aq,aa,ak,am,ah,ae,aj,ay,cond_true,cond_false,Bool.not_true,Bool.not_false,au,ar,ao,e46]
 have hw:cw fx av s n=bG fx s n:=rfl
 by_cases hc:atC fx s (runE fx av s n)=46
 ·have hc':decide (atC fx s (runE fx av s n)=46)=true:=by simp[hc]
  rw[hc',cond_true,LF h hs hle]
  simp only[ac,aq,aa,ak,am,ah,ae,aj,ay,cond_true,cond_false,Bool.not_true,Bool.not_false,au,ar,ao]
  rw[oT h (by omega) (fun c=>lJ) hle2]
  simp only[ac,aq,aa,ak,am,ah,ae,aj,ay,cond_true,cond_false,Bool.not_true,Bool.not_false,au,ar,ao]
  cases hdo:(br fx s (runE fx av s n)).2.2 with
  |false=>
   have hd:cr fx s n=true:=by simp[cr,hc,hdo]
   have:=key true hd
   simp only[numEnd,dg,hd,if_true]at this
   simp only[ac,aq,aa,ak,am,ah,ae,aj,ay,cond_true,cond_false,Bool.not_true,Bool.not_false,au,ar,ao,hw]
   exact this
  |true=>
   simp only[ac,aq,aa,ak,am,ah,ae,aj,ay,cond_true,cond_false,Bool.not_true,Bool.not_false,au,ar,ao,hw]
   by_cases hz:bG fx s n=[]
   ·have hd:cr fx s n=true:=by simp[cr,hc,hz]
    have:=key true hd
    simp only[numEnd,dg,hd,if_true]at this
    have h5:decide (bG fx s n=[])=true:=by simp[hz]
    rw[h5,cond_true]
    exact this
   ·have hd:cr fx s n=false:=by simp[cr,hdo,hz]
    have:=key false hd
    simp only[numEnd,dg,hd,Bool.false_eq_true,if_false]at this
    have h5:decide (bG fx s n=[])=false:=by simp[hz]
    rw[h5,cond_false]
    exact this
 ·have hc':decide (atC fx s (runE fx av s n)=46)=false:=by simp[hc]
  have hd:cr fx s n=false:=by simp[cr,hc]
  have:=key false hd
  simp only[numEnd,dg,hd,Bool.false_eq_true,if_false]at this
  rw[hc',cond_false,hw]
  exact this
end
end Go.Abs
set_option linter.unusedVariables false
set_option linter.unusedSimpArgs false
namespace Go.Abs
open Go
def bW (q:UInt8):List UInt8→Option (List UInt8×Nat)
 |[]=>none
 |[c]=>if c=q then some ([],1)else none
 |c::d::r=>if c=q then(if d=q then(bW q r).map (fun x=>(q::x.1,x.2+2))else some ([],1))else(bW q (d::r)).map fun x=>(c::x.1,x.2+1)
theorem il {q c:UInt8}(h:c≠q)(r:List UInt8):bW q (c::r)=(bW q r).map fun x=>(c::x.1,x.2+1):=by
 cases r with
 |nil=>simp[bW,h]
 |cons d r=>rw[bW,if_neg h]
theorem gg {q:UInt8}(r:List UInt8):bW q (q::q::r)=(bW q r).map fun x=>(q::x.1,x.2+2):=by
 rw[bW,if_pos rfl,if_pos rfl]
theorem fy {q:UInt8}{r:List UInt8}(h: ∀d t,r=d::t→d≠q):bW q (q::r)=some ([],1):=by
 cases r with
 |nil=>simp[bW]
 |cons d r=>rw[bW,if_pos rfl,if_neg (h d r rfl)]
theorem zn {q:UInt8}: ∀(a l:List UInt8),(∀b∈a,b≠q)→bW q (a++l)=(bW q l).map fun x=>(a++x.1,a.length+x.2)
 |[],l,_=>by
  simp only[List.nil_append,List.length_nil,Nat.zero_add]
  cases bW q l<;>rfl
 |c::a,l,h=>by
  rw[List.cons_append,il (h c List.mem_cons_self),zn a l (fun b hb=>h b (List.mem_cons_of_mem _ hb))]
  cases bW q l with
  |none=>rfl
  |some x=>simp only[Option.map_some,List.cons_append,List.length_cons];congr 2;omega
theorem xk {q:UInt8}: ∀(l:List UInt8),(∀b∈l,b≠q)→bW q l=none
 |[],_=>rfl
 |c::r,h=>by rw[il (h c List.mem_cons_self),xk r (fun b hb=>h b (List.mem_cons_of_mem _ hb))];rfl
theorem nR {q:UInt8}: ∀(n:Nat) (l:List UInt8),l.length≤n→ ∀t k,bW q l=some (t,k)→1≤k∧k≤l.length∧t.length+1≤k
 |0,l,hn,t,k,h=>by
  have:l=[]:=List.eq_nil_of_length_eq_zero (by omega)
  subst this
  cases h
 |n+1,[],hn,t,k,h=>by cases h
 |n+1,c::r,hn,t,k,h=>by
  simp only[List.length_cons]at hn ⊢
  by_cases hc:c=q
  ·subst hc
   cases r with
   |nil=>
    rw[fy (by intro d t h;cases h)]at h
    cases h
    simp
   |cons d r=>
    by_cases hd:d=c
    ·subst hd
     rw[gg]at h
     cases hq:bW d r with
     |none=>rw[hq]at h;cases h
     |some x=>
      rw[hq]at h
      cases h
      simp only[List.length_cons]at hn ⊢
      have:=nR n r (by omega) x.1 x.2 hq
      omega
    ·rw[fy (by intro e t h;cases h;exact hd)]at h
     cases h
     simp
  ·rw[il hc]at h
   cases hq:bW q r with
   |none=>rw[hq]at h;cases h
   |some x=>
    rw[hq]at h
    cases h
    have:=nR n r (by omega) x.1 x.2 hq
    simp only[List.length_cons]
    omega
theorem iV (l:List UInt8)(q:UInt8):(Lib.index l [q]= -1∧ ∀b∈l,b≠q)∨(∃a r,l=a++q::r∧(∀b∈a,b≠q)∧Lib.index l [q]=(a.length:Int)):=by
 induction l with
 |nil=>exact Or.inl ⟨rfl,by simp⟩
 |cons c l ih=>
  by_cases hc:c=q
  ·subst hc
   refine Or.inr ⟨[],l,rfl,by simp,?_⟩
   simp[Lib.index,List.isPrefixOf]
  ·have hp:([q].isPrefixOf (c::l))=false:=by
    have:(q == c)=false:=by simpa using fun h:q=c=>hc h.symm
    simp[List.isPrefixOf,this]
   rcases ih with⟨h1,h2⟩|⟨a,r,h1,h2,h3⟩
   ·refine Or.inl ⟨?_,?_⟩
    ·simp only[Lib.index,hp,h1];rfl
    ·intro b hb
     rcases List.mem_cons.1 hb with rfl|hb
     ·exact hc
     ·exact h2 b hb
   ·refine Or.inr ⟨c::a,r,by rw[h1];rfl,?_,?_⟩
    ·intro b hb
     rcases List.mem_cons.1 hb with rfl|hb
     ·exact hc
     ·exact h2 b hb
    ·have hne:(Lib.index l [q] == -1)=false:=by rw[h3];simp;try omega
     simp only[Lib.index,hp,hne,h3]
     simp
def dbl:List UInt8→List UInt8
 |[]=>[]
 |c::r=>if c=39 then 39::39::dbl r else c::dbl r
theorem jw: ∀(a l:List UInt8),(∀b∈a,b≠39)→dbl (a++l)=a++dbl l
 |[],l,_=>rfl
 |c::a,l,h=>by
  rw[List.cons_append,dbl,if_neg (h c List.mem_cons_self),jw a l (fun b hb=>h b (List.mem_cons_of_mem _ hb))]
  rfl
theorem mD: ∀(l:List UInt8),(dbl l).length≤2*l.length
 |[]=>Nat.le_refl _
 |c::r=>by
  have:=mD r
  unfold dbl
  split<;>simp only[List.length_cons]<;>omega
theorem sH: ∀(k:Nat) (l:List UInt8),Lib.count l [39]≤k→Lib.replaceK [39] [39,39] k l=dbl l
 |0,l,h=>by
  rcases iV l 39 with⟨h1,h2⟩|⟨a,r,h1,h2,h3⟩
  ·have:=jw l [] h2
   simp only[List.append_nil,dbl]at this
   rw[this];rfl
  ·exfalso
   have:=Lib.count_hit (sub:=[39]) (by simp) h3
   omega
 |k+1,l,h=>by
  rcases iV l 39 with⟨h1,h2⟩|⟨a,r,h1,h2,h3⟩
  ·have:=jw l [] h2
   simp only[List.append_nil,dbl]at this
   rw[this,Lib.replaceK,h1];rfl
  ·have hc:=Lib.count_hit (sub:=[39]) (by simp) h3
   rw[Lib.replaceK_hit _ _ _ _ _ h3]
   have hd:l.drop (a.length+([39]:List UInt8).length)=r:=by
    rw[h1,List.length_singleton,←List.drop_drop,List.drop_left' rfl];rfl
   have ht:l.take a.length=a:=by rw[h1,List.take_left' rfl]
   have hc':Lib.count l [39]=1+Lib.count r [39]:=by rw[hc,hd]
   rw[hd,ht,sH k r (by omega),h1,jw a _ h2,dbl,if_pos rfl]
   simp
theorem yA (l:List UInt8):Lib.replaceAll l [39] [39,39]=dbl l:=by
 unfold Lib.replaceAll Lib.replace Lib.replaceNum
 rw[if_neg (by decide),if_pos (Or.inl (by decide))]
 exact sH _ _ (Nat.le_refl _)
end Go.Abs
set_option linter.unusedVariables false
set_option linter.unusedSimpArgs false
set_option maxRecDepth 100000
namespace Go.Abs
open Go Go.Proofs
def yu:LV:= .cv (.v (.slice none 0 0))
def aw (l:List Tok):List CV:=l.map Tok.cv
def bE (l:List Nat):List CV:=l.map fun(n:Nat)=>CV.int .i64 (n:Int)
def tL (l:List Tok):LV:=if l=[]then yu else .osl (aw l)
def kL (l:List Nat):LV:=if l=[]then yu else .osl (bE l)
def scO (s:List UInt8)(fx:Bool)(out:List Tok)(kept:List Nat):Ob:= .cells [LV.str s,LV.bool fx,tL out,kL kept]
def scM (b:Mu)(s:List UInt8)(fx:Bool)(out:List Tok)(kept:List Nat):Mu:=b++[[scO s fx out kept]]
theorem o8 (b:Mu)(o:Ob):a8 (b++[[o]]) b.length 0=o:=by simp[a8]
theorem pb (b:Mu)(o o':Ob):bD (b++[[o]]) b.length 0 o'=b++[[o']]:=by simp[bD]
section
variable {b:Mu}{s:List UInt8}{fx:Bool}{out:List Tok}{kept:List Nat}
theorem lk:Sc (scM b s fx out kept) b.length 0 s fx [tL out,kL kept]:=o8 _ _
theorem Ml:eX (tL out)=some (aw out):=by unfold tL;split<;>rename_i h<;>(try subst h)<;>rfl
theorem Mk:eX (kL kept)=some (bE kept):=by unfold kL;split<;>rename_i h<;>(try subst h)<;>rfl
theorem Jm:bL (strip (tL out))=some (aw out):=by unfold tL;split<;>rename_i h<;>(try subst h)<;>rfl
theorem UC {a b c d:LV}:ie E.P 38 (.cells [a,b,c,d]) 3=some (d,.cells [a,b,c,strip d]):=by kernel_rfl
theorem Tl {a b c d:LV}{l:List CV}:bI E.P 38 (.cells [a,b,c,d]) 3 (LV.osl l)=some (.cells [a,b,c,.osl l]):=by kernel_rfl
theorem UB {a b c d:LV}:ie E.P 32 (.cells [a,b,c,d]) 2=some (c,.cells [a,b,strip c,d]):=by kernel_rfl
theorem Tk {a b c d:LV}{l:List CV}:bI E.P 32 (.cells [a,b,c,d]) 2 (LV.osl l)=some (.cells [a,b,.osl l,d]):=by kernel_rfl
theorem PX {a b c d:LV}:bB E.P 32 (.cells [a,b,c,d]) 2=some (strip c):=by kernel_rfl
theorem pY: ∀(l:List Nat),fK 1 (bE l)=true
 |[]=>rfl
 |a::l=>by
  have e:bE (a::l)=CV.int .i64 (a:Int)::bE l:=rfl
  rw[e]
  simp only[fK]
  have:fq 1 (CV.int .i64 (a:Int))=true:=rfl
  rw[this]
  exact pY l
theorem me: ∀(l:List Tok),fK 3 (aw l)=true
 |[]=>rfl
 |a::l=>by
  have e:aw (a::l)=a.cv::aw l:=rfl
  rw[e]
  simp only[fK]
  have:fq 3 a.cv=true:=rfl
  rw[this]
  exact me l
theorem nY {n:Nat}: ∀(l:List Nat),bN n (bE l)=true
 |[]=>rfl
 |a::l=>by
  have e:bE (a::l)=CV.int .i64 (a:Int)::bE l:=rfl
  rw[e]
  simp only[bN]
  have:below n (CV.int .i64 (a:Int))=true:=rfl
  rw[this]
  exact nY l
theorem k9 {n:Nat}: ∀(l:List Tok),bN n (aw l)=true
 |[]=>rfl
 |a::l=>by
  have e:aw (a::l)=a.cv::aw l:=rfl
  rw[e]
  simp only[bN]
  have:below n a.cv=true:=rfl
  rw[this]
  exact k9 l
theorem GV {a c:List Nat}(h:a.length+c.length≤1000000):fL 1 (bE a) (bE c)=true:=by
 unfold fL
 rw[pY,pY]
 simp[bd,bE]
 omega
theorem p3 {a c:List Tok}(h:a.length+c.length≤1000000):fL 3 (aw a) (aw c)=true:=by
 unfold fL
 rw[me,me]
 simp[bd,aw]
 omega
theorem RU {n:Nat}:LV.osl (bE kept++[CV.int .i64 (n:Int)])=kL (kept++[n]):=by
 unfold kL
 rw[if_neg (by simp)]
 simp[bE]
theorem Tc {t:Tok}:LV.osl (aw out++[t.cv])=tL (out++[t]):=by
 unfold tL
 rw[if_neg (by simp)]
 simp[aw]
theorem QF (hs:s.length≤200000): ∀(k a e:Nat) (kept:List Nat),a+k=e→e≤300000→kept.length+k≤600000→
  AI (ev E) b.length 0 (e:Int) (a:Int) (scM b s fx out kept)=some (rI (scM b s fx out (kept++List.range' a k))):=by
 intro k
 induction k with
 |zero=>
  intro a e kept hk he hq
  refine ba ?_
  rw[BT]
  have h1:decide ((a:Int)<(e:Int))=false:=by simp;omega
  rw[h1,cond_false]
  simp
 |succ k ih=>
  intro a e kept hk he hq
  refine ba ?_
  rw[BT]
  have h1:decide ((a:Int)<(e:Int))=true:=by simp;omega
  rw[h1,cond_true]
  unfold scM
  rw[o8]
  unfold scO
  rw[UC,aa,Mk,aa]
  have ha:[CV.int .i64 (a:Int)]=bE [a]:=rfl
  rw[ha,GV (by simp;omega),ay]
  have hb:bN (b.length+1) (bE kept++bE [a])=true:=by
   have:bE kept++bE [a]=bE (kept++[a]):=by simp[bE]
   rw[this];exact nY _
  rw[hb,ay,pb,o8,Tl,aa,pb,cu (by omega) (by omega)]
  have:=ih (a+1) e (kept++[a]) (by omega) he (by simp;omega)
  unfold scM scO at this
  rw[←ha,RU]
  have e1:((a+1:Nat):Int)=(a:Int)+1:=by omega
  rw[←e1,this]
  simp[List.range'_succ]
theorem LG (hs:s.length≤200000){a e:Nat}(h:a≤e)(he:e≤300000)(hk:kept.length+(e-a)≤600000):
  (ev E).call 189 [LV.cv (CV.ref b.length 0 0),LV.int .i64 (a:Int),LV.int .i64 (e:Int)] (scM b s fx out kept)=some (.ret (.ltup []) (scM b s fx out (kept++List.range' a (e-a)))):=by
 refine aJ ?_
 rw[Uk,QF hs (e-a) a e kept (by omega) he hk,aa,D0]
def bh (t:List UInt8):List UInt8:=[39]++dbl t++[39]
theorem PQ {t:List UInt8}{μ:Mu}(h:t.length≤200000):(ev E).call 86 [LV.str t] μ=some (.ret (.cv (Tok.cv ⟨1,6,bh t⟩)) μ):=by
 refine aJ ?_
 have hd:=mD t
 rw[VC,TS (by omega) (by simp) (by simp),ac,ah,aa,yA,bq (by simp;omega),ay,bq (by simp;omega),ay]
 rfl
theorem eT {α:Type}{l:List α}{a e:Nat}(h1:a≤e)(h2:e≤l.length):dk l (a:Int) (e:Int)=some ((l.drop a).take (e-a)):=by
 unfold dk
 have:(decide ((0:Int)≤(a:Int))&&decide ((a:Int)≤(e:Int))&&decide ((e:Int)≤(l.length:Int)))=true:=by simp;omega
 rw[this]
 have e1:((a:Int)).toNat=a:=by omega
 have e2:((e:Int) -(a:Int)).toNat=e-a:=by omega
 simp only[e1,e2]
theorem qc {α:Type}{l:List α}{a:Nat}(h1:a≤l.length):dk l (a:Int) (l.length:Int)=some (l.drop a):=by
 rw[eT h1 (Nat.le_refl _)]
 congr 1
 apply List.take_of_length_le
 simp
noncomputable def Bq (b:Mu)(q:Int)(from_ i:Nat)(t:List UInt8)(μ:Mu):Option (List UInt8×Nat)→St
 |none=>nE (gR 7) μ
 |some (x,k)=>rH b.length 0 ((i+k:Nat):Int) (from_:Int) (t++x) 0 0 [] μ
theorem zJ {c:UInt8}(l:List UInt8):Lib.hasPrefix l [c]=(match l with|[]=>false|d::_=>decide (d=c)):=by
 cases l with
 |nil=>simp[Lib.hasPrefix]
 |cons d r=>
  by_cases h:d=c
  ·subst h;simp[Lib.hasPrefix,List.isPrefixOf]
  ·have:(c == d)=false:=by simpa using fun e:c=d=>h e.symm
   simp[Lib.hasPrefix,List.isPrefixOf,h,this]
noncomputable def vD (b:Mu)(i:Int)(q:UInt8)(from_:Int)(t:List UInt8)(μ:Mu):List UInt8→St
 |[]=>nx b.length 0 i [q] from_ t 0 0 [] μ
 |d::_=>if d=q then rn b.length 0 i [q] from_ (t++[q]) 0 0 [] μ else nx b.length 0 i [q] from_ t 0 0 [] μ
theorem QE (hs:s.length≤200000){q:UInt8}{from_:Nat}: ∀(k i:Nat) (t:List UInt8),s.length-i≤k→i≤s.length→t.length≤i→
  AH (ev E) b.length 0 (i:Int) [q] (from_:Int) t 0 0 [] (scM b s fx out kept)=some (Bq b 0 from_ i t (scM b s fx out kept) (bW q (s.drop i))):=by
 intro k
 induction k with
 |zero=>
  intro i t hk hi ht
  refine ba ?_
  have h:=lk (b:=b) (s:=s) (fx:=fx) (out:=out) (kept:=kept)
  have hd:s.drop i=[]:=List.drop_eq_nil_of_le (by omega)
  rw[BS,h,fA,dq,aa,ah,aa,qc hi,aa,hd,LC (by simp)]
  simp only[ac,aq,aa,ak,am,ah,ae,aj,ay,cond_true,cond_false,Bool.not_true,Bool.not_false,au,ar,ao]
  have hx:Lib.index [] [q]= -1:=rfl
  have hx2:decide ((-1:Int)<0)=true:=by decide
  rw[hx,hx2,cond_true,j4,eh]
  rfl
 |succ k ih=>
  intro i t hk hi ht
  refine ba ?_
  have h:=lk (b:=b) (s:=s) (fx:=fx) (out:=out) (kept:=kept)
  rw[BS,h,fA,dq,aa,ah,aa,qc hi,aa,LC (by simp;omega)]
  simp only[ac,aq,aa,ak,am,ah,ae,aj,ay,cond_true,cond_false,Bool.not_true,Bool.not_false,au,ar,ao]
  rcases iV (s.drop i) q with⟨h1,h2⟩|⟨a,r,h1,h2,h3⟩
  ·have hx2:decide ((-1:Int)<0)=true:=by decide
   rw[h1,hx2,cond_true,j4,eh,xk _ h2]
   rfl
  ·have hx2:decide ((a.length:Int)<0)=false:=by simp
   have hlen:a.length+1+r.length=s.length-i:=by
    have:(s.drop i).length=(a++q::r).length:=by rw[h1]
    simp only[List.length_drop,List.length_append,List.length_cons]at this
    omega
   have hr:s.drop (i+(a.length+1))=r:=by
    rw[←List.drop_drop,h1]
    have:a++q::r=(a++[q])++r:=by simp
    rw[this,List.drop_left' (by simp)]
   have hta:(s.drop i).take a.length=a:=by rw[h1,List.take_left' rfl]
   rw[h3,hx2,cond_false]
   have hG:Aw (ev E) b.length 0 (i:Int) [q] (from_:Int) t (a.length:Int) 0 0 [] (scM b s fx out kept)=
     some (vD b ((i+(a.length+1):Nat):Int) q (from_:Int) (t++a) (scM b s fx out kept) r):=by
    refine aT ?_
    have w1:IntKind.wrap .i64 ((i:Int)+(a.length:Int))=((i+a.length:Nat):Int):=by rw[cu (by omega) (by omega)];omega
    have w2:IntKind.wrap .i64 ((a.length:Int)+1)=((a.length+1:Nat):Int):=by rw[cu (by omega) (by omega)];omega
    have w3:IntKind.wrap .i64 ((i:Int)+((a.length+1:Nat):Int))=((i+(a.length+1):Nat):Int):=by rw[cu (by omega) (by omega)];omega
    rw[N6,h,fA,dq,w1,w2,w3]
    simp only[aa,ah]
    rw[eT (by omega) (by omega),aa]
    have e2:i+a.length-i=a.length:=by omega
    rw[e2,hta,bq (by omega),ay,qc (by omega),aa,hr,Sg,ac,ae,aa,zJ]
    have hsm:bd ((t++a).length+[q].length)=true:=bq (by simp;omega)
    cases r with
    |nil=>simp only[Bool.not_false,cond_true,vD]
    |cons d r'=>
     by_cases hdq:d=q
     ·subst hdq
      simp only[decide_true,Bool.not_true,cond_false,vD,if_true]
      rw[hsm,ay]
     ·simp only[hdq,decide_false,Bool.not_false,cond_true,vD,if_false]
   rw[hG,aa,h1,zn a _ h2]
   cases r with
   |nil=>
    rw[fy (by intro d t h;cases h)]
    simp only[vD]
    rw[uc]
    simp[Bq]
   |cons d r'=>
    by_cases hdq:d=q
    ·subst hdq
     simp only[vD,if_true]
     simp only[List.length_cons]at hlen
     rw[gg,DB,cu (by omega) (by omega)]
     have e1:((i+(a.length+1):Nat):Int)+1=((i+(a.length+2):Nat):Int):=by omega
     have hr2:s.drop (i+(a.length+2))=r':=by
      have:i+(a.length+2)=(i+(a.length+1))+1:=by omega
      rw[this,←List.drop_drop,hr];rfl
     rw[e1,ih (i+(a.length+2)) _ (by omega) (by omega) (by simp;omega),hr2]
     cases bW d r' with
     |none=>rfl
     |some x=>
      simp only[Bq,Option.map_some]
      congr 2
      ·omega
      ·simp
    ·simp only[vD,hdq,if_false]
     rw[fy (by intro e t h;cases h;exact hdq),uc]
     simp[Bq]
def cE (s:List UInt8)(n:Nat):Except Int (Tok×Nat):=
 match bW ((s[n]?).getD 0) (s.drop (n+1))with
 |none=> .error 7
 |some (t,k)=>if 60<t.length then .error 8 else .ok (⟨1,6,bh t⟩,n+1+k)
def yx (b:Mu)(s:List UInt8)(fx:Bool)(out:List Tok)(kept:List Nat):Except Int (Tok×Nat×List Nat)→Out
 | .ok q=> .ret (.ltup [.cv q.1.cv,LV.int .i64 (q.2.1:Int)]) (scM b s fx out (kept++q.2.2))
 | .error e=> .panic (gR e) (scM b s fx out kept)
def dw (s:List UInt8)(n:Nat):Except Int (Tok×Nat×List Nat):=
 match cE s n with
 | .ok q=> .ok (q.1,q.2,List.range' n (q.2-n))
 | .error e=> .error e
theorem R8 (hs:s.length≤200000)(hk:kept.length≤200000){n:Nat}(hn:n<s.length):
  (ev E).call 173 [LV.cv (CV.ref b.length 0 0),LV.int .i64 (n:Int)] (scM b s fx out kept)=some (yx b s fx out kept (dw s n)):=by
 refine aJ ?_
 have h:=lk (b:=b) (s:=s) (fx:=fx) (out:=out) (kept:=kept)
 rw[Ui,h,fA,dq,aa,ah,aa,cu (by omega) (by omega)]
 have e1:(n:Int)+1=((n+1:Nat):Int):=by omega
 have e2:n+1-n=1:=by omega
 have hd:s.drop n=s[n]::s.drop (n+1):=List.drop_eq_getElem_cons hn
 rw[e1,eT (by omega) (by omega),aa,e2,hd]
 have e3:List.take 1 (s[n]::s.drop (n+1))=[s[n]]:=rfl
 rw[e3,QE hs s.length (n+1) [] (by omega) (by omega) (by simp),aa]
 unfold dw cE
 rw[List.getElem?_eq_getElem hn,Option.getD_some]
 cases hq:bW s[n] (s.drop (n+1))with
 |none=>exact DZ _ _ _
 |some x=>
  obtain⟨t,k⟩:=x
  have hl:=nR _ _ (Nat.le_refl _) t k hq
  rw[List.length_drop]at hl
  simp only[Bq,List.nil_append]
  rw[DY]
  by_cases h60:60<t.length
  ·have:decide ((60:Int)<(t.length:Int))=true:=by simp;omega
   rw[this,cond_true,j4,eh,if_pos h60]
   rfl
  ·have:decide ((60:Int)<(t.length:Int))=false:=by simp;omega
   rw[this,cond_false,if_neg h60]
   have hG:xT (ev E) b.length 0 ((n+1+k:Nat):Int) (n:Int) t 0 0 [] (scM b s fx out kept)=some (pB ((n+1+k:Nat):Int) 1 6 (bh t) (scM b s fx out (kept++List.range' n (n+1+k-n)))):=by
    refine aT ?_
    rw[L5,LG hs (by omega) (by omega) (by omega)]
    simp only[ac,aq,aa,ak,am,ah,ae,aj,ay,cond_true,cond_false,Bool.not_true,Bool.not_false,au,ar,ao]
    rw[PQ (by omega),ac,bx]
   rw[hG,aa,B4]
   rfl
end
end Go.Abs
set_option linter.unusedVariables false
set_option linter.unusedSimpArgs false
namespace Go.Proofs.YtfcjjankfjaapaaGreatDoor.Glue
theorem Qx:laidOutB Tryz.prog=true:=by kernel_rfl
end Go.Proofs.YtfcjjankfjaapaaGreatDoor.Glue
namespace Go.Abs.Ga
open Go Go.Proofs
section
variable {P:Program}{t:TypeId}{c:CV}
theorem MT {ys:List CV}(h:IsL [.int .i64,.int .i64,.str] ys): ∃x:Tok,CV.agg ys=x.cv:=by
 simp only[IsL,Is]at h
 obtain⟨_,_,rfl,⟨a,rfl,_⟩,_,_,rfl,⟨b,rfl,_⟩,_,_,rfl,⟨s,rfl,_⟩,rfl⟩:=h
 exact⟨⟨a,b,s⟩,rfl⟩
theorem is_toks (ht:kH P t=false)(h:if kH P t=true then ∃ys,c= .agg ys∧IsL [.sl true [.int .i64,.int .i64,.str]] ys else IsL [.sl true [.int .i64,.int .i64,.str]] [c]): ∃l:List Tok,LV.cv c=LV.cv (CV.sl (aw l))∧l.length≤maxLen:=by
 simp only[ht,Bool.false_eq_true,if_false]at h
 unfold IsL Is at h
 obtain⟨y,r,e,⟨xs,rfl,hl,hx⟩,_⟩:=h
 injection e with e _
 subst e
 simp only[if_true]at hx
 have: ∀(xs:List CV),(∀x∈xs,∃ys,x=CV.agg ys∧IsL [.int .i64,.int .i64,.str] ys)→ ∃l:List Tok,xs=aw l:=by
  intro xs
  induction xs with
  |nil=>intro _;exact⟨[],rfl⟩
  |cons a b ih=>
   intro h
   obtain⟨l,rfl⟩:=ih fun x hx=>h x (List.mem_cons_of_mem _ hx)
   obtain⟨ys,rfl,h1⟩:=h a (by simp)
   obtain⟨x,h2⟩:=MT h1
   exact⟨x::l,by rw[h2];rfl⟩
 obtain⟨l,rfl⟩:=this xs hx
 exact⟨l,rfl,by simpa[aw]using hl⟩
end
end Go.Abs.Ga
set_option linter.unusedVariables false
set_option linter.unusedSimpArgs false
set_option maxRecDepth 100000
namespace Go.Abs
open Go Go.Proofs
section
variable {b:Mu}{s:List UInt8}{fx:Bool}{out:List Tok}{kept:List Nat}
theorem Uq (ρ:Rho)(a:List CV)(b:List UInt8)(μ:Mu):aC E ρ 50 [LV.osl a,LV.str b] μ=
  callK (ρ.call 94 [LV.osl a,LV.str b] μ) (fun v1 μ2=>opt (aF .i64 v1) fun n5=>some (.ret (LV.bool (decide ((0:Int)≤n5))) μ2)) (fun v4 μ3=>aB (below (List.length μ3) v4) (some (.panic v4 μ3))):=by kernel_rfl
theorem Ur (ρ:Rho)(a:List CV)(b:List UInt8)(μ:Mu):aC E ρ 94 [LV.osl a,LV.str b] μ=aC E ρ 94 [LV.cv (CV.sl a),LV.str b] μ:=by kernel_rfl
theorem Sn {l:List (List UInt8)}{x:List UInt8}{μ:Mu}(hl:l.length≤1000000):(ev E).call 94 [LV.osl (bw l),LV.str x] μ=some (.ret (LV.int .i64 (qj x l 0)) μ):=by
 refine aJ ?_
 rw[Ur]
 exact MN hl
theorem Sj {l:List (List UInt8)}{x:List UInt8}{μ:Mu}(hl:l.length≤1000000):(ev E).call 50 [LV.osl (bw l),LV.str x] μ=some (.ret (LV.bool (l.contains x)) μ):=by
 refine aJ ?_
 rw[Uq,Sn hl]
 simp only[ac,aq,aa,ak,am,ah,ae,aj,ay,cond_true,cond_false,Bool.not_true,Bool.not_false,au,ar,ao]
 rw[vF]
def fG (fx:Bool)(s:List UInt8)(n:Nat):Int:=b7 (cw fx av s n)
def qi (fx:Bool)(s:List UInt8)(n:Nat):UInt8:=atC fx s (runE fx av s n)
def holE (fx:Bool)(s:List UInt8)(n:Nat):Nat:=atE fx s (runE fx av s n)
def mi (fx:Bool)(s:List UInt8)(n:Nat):Prop:=(cw fx av s n).length≤2∧1≤fG fx s n∧fG fx s n≤60∧(qi fx s n=72∨qi fx s n=104)
instance (fx:Bool)(s:List UInt8)(n:Nat):Decidable (mi fx s n):=by unfold mi;infer_instance
def oe (fx:Bool)(s:List UInt8)(n:Nat):Except Int (Tok×Nat×List Nat):=
 if s.length<holE fx s n+(fG fx s n).toNat then .error 7
 else .ok (⟨1,6,bh ((s.drop (holE fx s n)).take (fG fx s n).toNat)⟩,holE fx s n+(fG fx s n).toNat,List.range' (holE fx s n) (fG fx s n).toNat)
def OB (b:Mu)(s:List UInt8)(fx:Bool)(out:List Tok)(kept:List Nat):Except Int (Tok×Nat×List Nat)→Out
 | .ok q=> .ret (.ltup [.cv q.1.cv,LV.int .i64 (q.2.1:Int),LV.bool true]) (scM b s fx out (kept++q.2.2))
 | .error e=> .panic (gR e) (scM b s fx out kept)
def PV:Tok:=⟨0,0,[]⟩
theorem R7 (hs:s.length≤200000)(hk:kept.length≤200000){n:Nat}(hn:n≤s.length):
  (ev E).call 167 [LV.cv (CV.ref b.length 0 0),LV.int .i64 (n:Int)] (scM b s fx out kept)=some (if mi fx s n then OB b s fx out kept (oe fx s n)else .ret (.ltup [.cv PV.cv,LV.int .i64 (n:Int),LV.bool false]) (scM b s fx out kept)):=by
 have h:=lk (b:=b) (s:=s) (fx:=fx) (out:=out) (kept:=kept)
 have hr:=jl (fx:=fx) (s:=s) (p:=av) (n:=n)
 have hle:=iG (fx:=fx) (p:=av) hn
 have hE:holE fx s n≤s.length:=gv hle
 have e72: ∀c:UInt8,decide ((c.toNat:Int)=72)=decide (c=72):=fun c=>cq (k:=72) (by omega)
 have e104: ∀c:UInt8,decide ((c.toNat:Int)=104)=decide (c=104):=fun c=>cq (k:=104) (by omega)
 refine aJ ?_
 rw[Uc,oT h (by omega) (fun c=>lJ) hn]
 simp only[ac,aq,aa,ak,am,ah,ae,aj,ay,cond_true,cond_false,Bool.not_true,Bool.not_false,au,ar,ao]
 rw[hZ h (by omega) hle]
 simp only[ac,aq,aa,ak,am,ah,ae,aj,ay,cond_true,cond_false,Bool.not_true,Bool.not_false,au,ar,ao]
 rw[Aa (by omega),p4]
 simp only[ac,aq,aa,ak,am,ah,ae,aj,ay,cond_true,cond_false,Bool.not_true,Bool.not_false,au,ar,ao,fi,e72,e104]
 have hNd:b7 (cw fx av s n)=fG fx s n:=rfl
 have hCd:atC fx s (runE fx av s n)=qi fx s n:=rfl
 have hEd:atE fx s (runE fx av s n)=holE fx s n:=rfl
 rw[hNd,hCd,hEd]
 by_cases h1:2<(cw fx av s n).length
 ·have:decide ((2:Int)<((cw fx av s n).length:Int))=true:=by simp;omega
  rw[this,cond_true,if_neg (by unfold mi;omega)]
  rfl
 ·have e1:decide ((2:Int)<((cw fx av s n).length:Int))=false:=by simp;omega
  rw[e1,cond_false]
  by_cases h2:fG fx s n<1
  ·have:decide (fG fx s n<1)=true:=by simp[h2]
   rw[this,cond_true,if_neg (by unfold mi;omega)]
   rfl
  ·have e2:decide (fG fx s n<1)=false:=by simp[h2]
   rw[e2,cond_false]
   by_cases h3:60<fG fx s n
   ·have:decide (60<fG fx s n)=true:=by simp[h3]
    rw[this,cond_true,if_neg (by unfold mi;omega)]
    rfl
   ·have e3:decide (60<fG fx s n)=false:=by simp[h3]
    rw[e3,cond_false]
    obtain⟨m,hm⟩: ∃m:Nat,fG fx s n=(m:Int):=⟨(fG fx s n).toNat,by omega⟩
    have hG:wg (ev E) b.length 0 (holE fx s n:Nat) (fG fx s n) 0 0 [] (scM b s fx out kept)=some (match oe fx s n with| .ok q=>ri (q.2.1:Int) true q.1.kind q.1.type q.1.text (scM b s fx out (kept++q.2.2))| .error e=>rj (gR e) (scM b s fx out kept)):=by
     refine aT ?_
     have w1:IntKind.wrap .i64 ((holE fx s n:Int)+(m:Int))=((holE fx s n+m:Nat):Int):=by rw[cu (by omega) (by omega)];omega
     have e0:((m:Int)).toNat=m:=by omega
     unfold oe
     rw[NZ,h,fA,dq,hm,w1,e0]
     simp only[ac,aq,aa,ak,am,ah,ae,aj,ay,cond_true,cond_false,Bool.not_true,Bool.not_false,au,ar,ao]
     by_cases h4:s.length<holE fx s n+m
     ·have:decide ((s.length:Int)<((holE fx s n+m:Nat):Int))=true:=by simp;omega
      rw[this,cond_true,j4,eh,if_pos h4]
     ·have:decide ((s.length:Int)<((holE fx s n+m:Nat):Int))=false:=by simp;omega
      rw[this,cond_false,if_neg h4]
      have hG8:Av (ev E) b.length 0 (holE fx s n:Nat) (m:Int) 0 0 [] (scM b s fx out kept)=some (rk ((holE fx s n+m:Nat):Int) true 1 6 (bh ((s.drop (holE fx s n)).take m)) (scM b s fx out (kept++List.range' (holE fx s n) m))):=by
       refine aT ?_
       have h':=lk (b:=b) (s:=s) (fx:=fx) (out:=out) (kept:=kept++List.range' (holE fx s n) m)
       have e5:holE fx s n+m-holE fx s n=m:=by omega
       rw[N1,w1,LG hs (by omega) (by omega) (by omega),e5]
       simp only[ac,aq,aa,ak,am,ah,ae,aj,ay,cond_true,cond_false,Bool.not_true,Bool.not_false,au,ar,ao]
       rw[h',fA,dq]
       simp only[ac,aq,aa,ak,am,ah,ae,aj,ay,cond_true,cond_false,Bool.not_true,Bool.not_false,au,ar,ao]
       rw[eT (by omega) (by omega),aa,e5,PQ (by simp;omega),ac,bx]
      rw[hG8,aa,Dv]
    have hfin:(opt (wg (ev E) b.length 0 (holE fx s n:Nat) (fG fx s n) 0 0 [] (scM b s fx out kept)) (kB (ev E) 167 mK []))=some (OB b s fx out kept (oe fx s n)):=by
     rw[hG,aa]
     cases oe fx s n with
     |ok q=>exact Dt _ _ _ _ _ _ _
     |error e=>exact Du _ _ _
    by_cases h5:qi fx s n=72
    ·have:decide (qi fx s n=72)=true:=by simp[h5]
     rw[this,if_pos ⟨by omega,by omega,by omega,Or.inl h5⟩]
     exact hfin
    ·have e5:decide (qi fx s n=72)=false:=by simp[h5]
     rw[e5]
     by_cases h6:qi fx s n=104
     ·have:decide (qi fx s n=104)=true:=by simp[h6]
      rw[this,if_pos ⟨by omega,by omega,by omega,Or.inr h6⟩]
      exact hfin
     ·have e6:decide (qi fx s n=104)=false:=by simp[h6]
      rw[e6,if_neg (by unfold mi;intro hh;exact hh.2.2.2.elim h5 h6)]
      rfl
def vK (fx:Bool)(out:List Tok):Bool:=fx&&(match out.getLast? with|none=>true|some t=>decide (t.kind=2)&&[[40],[44],[47],[61]].contains t.text)
theorem R6 (ho:out.length≤200000):(ev E).call 166 [LV.cv (CV.ref b.length 0 0)] (scM b s fx out kept)=some (.ret (LV.bool (vK fx out)) (scM b s fx out kept)):=by
 refine aJ ?_
 have h:=lk (b:=b) (s:=s) (fx:=fx) (out:=out) (kept:=kept)
 rw[Ub,h,vU,qG]
 simp only[ac,aq,aa,ak,am,ah,ae,aj,ay,cond_true,cond_false,Bool.not_true,Bool.not_false,au,ar,ao]
 cases fx with
 |false=>rfl
 |true=>
  simp only[ac,aq,aa,ak,am,ah,ae,aj,ay,cond_true,cond_false,Bool.not_true,Bool.not_false,au,ar,ao]
  have hlen:(aw out).length=out.length:=by simp[aw]
  have hG:Ju (ev E) b.length 0 (scM b s true out kept)=some (nv (vK true out) (scM b s true out kept)):=by
   refine aT ?_
   rw[NX,h,PX,aa,Jm,aa,hlen]
   by_cases h0:out=[]
   ·subst h0;rfl
   ·have hpos:0<out.length:=by
     cases out with
     |nil=>exact absurd rfl h0
     |cons a r=>simp
    have e0:decide ((out.length:Int)=0)=false:=by simp[h0]
    rw[e0,cond_false]
    have hg:out.getLast?=some (out.getLast h0):=List.getLast?_eq_some_getLast h0
    have hG5:Jv (ev E) b.length 0 (scM b s true out kept)=some (nw (vK true out) (scM b s true out kept)):=by
     refine aT ?_
     rw[NY,h,PX,aa,Jm,aa,aa,Jm,aa,hlen,cu (by omega) (by omega)]
     have e1:(out.length:Int) -1=((out.length-1:Nat):Int):=by omega
     have e2:(aw out)[out.length-1]? =some (out.getLast h0).cv:=by
      unfold aw
      rw[List.getElem?_map,List.getElem?_eq_getElem (by omega),List.getLast_eq_getElem]
      rfl
     rw[e1,e7,e2,aa,bx]
     unfold vK
     rw[hg]
     simp only[Bool.true_and]
     by_cases hk:(out.getLast h0).kind=2
     ·have:decide ((out.getLast h0).kind=2)=true:=by simp[hk]
      rw[this,cond_true]
      have e3:LV.osl [CV.str ([40]:List UInt8),CV.str ([44]:List UInt8),CV.str ([47]:List UInt8),CV.str ([61]:List UInt8)]=LV.osl (bw [[40],[44],[47],[61]]):=rfl
      rw[e3,Sj (by simp)]
      simp only[ac,aq,aa,ak,am,ah,ae,aj,ay,cond_true,cond_false,Bool.not_true,Bool.not_false,au,ar,ao,Bool.true_and]
     ·have:decide ((out.getLast h0).kind=2)=false:=by simp[hk]
      rw[this,cond_false,Bool.false_and]
    rw[hG5,aa,Ds]
  rw[hG,aa,Dr]
def el (t:List UInt8):Option (List UInt8):=
 if t=[60,61]then some [46,76,69,46]else if t=[62,61]then some [46,71,69,46]else if t=[61,61]then some [46,69,81,46]else if t=[47,61]then some [46,78,69,46]
 else if t=[60]then some [46,76,84,46]else if t=[62]then some [46,71,84,46]else none
def dQ (fx:Bool)(s:List UInt8)(n:Nat):Except Int (Tok×Nat):=
 let a:=atC fx s n
 let m:=atE fx s n
 let c:=atC fx s m
 match el [a,c]with
 |some w=> .ok (⟨2,0,w⟩,atE fx s m)
 |none=>if c≠0∧bj.contains [a,c]then .ok (⟨2,0,[a,c]⟩,atE fx s m)
  else match el [a]with
   |some w=> .ok (⟨2,0,w⟩,m)
   |none=>if bj.contains [a]then .ok (⟨2,0,[a]⟩,m)else .error 7
end
end Go.Abs
set_option linter.unusedVariables false
set_option linter.unusedSimpArgs false
set_option maxRecDepth 100000
namespace Go.Abs
open Go Go.Proofs
def ksV:List Value:=[Value.string ⟨⟨([60,61]:List UInt8)⟩⟩,Value.string ⟨⟨([62,61]:List UInt8)⟩⟩,Value.string ⟨⟨([61,61]:List UInt8)⟩⟩,Value.string ⟨⟨([47,61]:List UInt8)⟩⟩,Value.string ⟨⟨([60]:List UInt8)⟩⟩,Value.string ⟨⟨([62]:List UInt8)⟩⟩]
def vsV:List CV:=[CV.str ([46,76,69,46]:List UInt8),CV.str ([46,71,69,46]:List UInt8),CV.str ([46,69,81,46]:List UInt8),CV.str ([46,78,69,46]:List UInt8),CV.str ([46,76,84,46]:List UInt8),CV.str ([46,71,84,46]:List UInt8)]
section
variable {b:Mu}{s:List UInt8}{fx:Bool}{out:List Tok}{kept:List Nat}{μ:Mu}
theorem LH:(ev E).call 196 [] μ=some (.ret (LV.cv (CV.mview ksV vsV)) μ):=aJ (by rw[Up];rfl)
theorem BK {s:S}:tB (LV.cv (CV.mview ksV vsV)) s μ=some (ksV,vsV):=rfl
theorem FI:j2 .string ksV=true:=by decide
theorem wJ (t:List UInt8):fU ksV vsV (Value.string ⟨⟨t⟩⟩)=(el t).map CV.str:=by
 have h: ∀u:List UInt8,ql (Value.string ⟨⟨t⟩⟩) (Value.string ⟨⟨u⟩⟩)=decide (t=u):=fun u=>rfl
 simp only[ksV,vsV,fU,h]
 unfold el
 by_cases h1:t=[60,61]
 ·simp[h1]
 ·by_cases h2:t=[62,61]
  ·simp[h2]
  ·by_cases h3:t=[61,61]
   ·simp[h3]
   ·by_cases h4:t=[47,61]
    ·simp[h4]
    ·by_cases h5:t=[60]
     ·simp[h5]
     ·by_cases h6:t=[62]
      ·simp[h6]
      ·simp[h1,h2,h3,h4,h5,h6]
theorem RJ {a:UInt8}:bk [CV.int .u8 (a.toNat:Int)]=some [a]:=cS [a]
theorem RK {a c:UInt8}:bk [CV.int .u8 (a.toNat:Int),CV.int .u8 (c.toNat:Int)]=some [a,c]:=cS [a,c]
theorem MD {a:UInt8}{m:Nat}{x y:Int}{z:List UInt8}:EA (ev E) (m:Int) [a] x y z μ=some (stT μ mc jQ (if bj.contains [a]then .ok (⟨2,0,[a]⟩,m)else .error 7)):=by
 refine aT ?_
 rw[L6,Ht]
 simp only[ac,aq,aa,ak,am,ah,ae,aj,ay,cond_true,cond_false,Bool.not_true,Bool.not_false,au,ar,ao]
 rw[wW (l:=bj) (by decide)]
 simp only[ac,aq,aa,ak,am,ah,ae,aj,ay,cond_true,cond_false,Bool.not_true,Bool.not_false,au,ar,ao]
 cases bj.contains [a]with
 |true=>rfl
 |false=>rw[Bool.not_false,cond_true,j4,eh];rfl
def one (a:UInt8)(m:Nat):Except Int (Tok×Nat):=match el [a]with
   |some w=> .ok (⟨2,0,w⟩,m)
   |none=>if bj.contains [a]then .ok (⟨2,0,[a]⟩,m)else .error 7
theorem Ct {a:UInt8}{m:Nat}{x y:Int}{z:List UInt8}:Ax (ev E) (a.toNat:Int) (m:Int) x y z μ=some (stT μ lu lw (one a m)):=by
 refine aT ?_
 rw[N8,RJ,aa,LH,ac]
 simp only[ac,aq,aa,ak,am,ah,ae,aj,ay,cond_true,cond_false,Bool.not_true,Bool.not_false,au,ar,ao,fi,BK,FI,wJ]
 unfold one
 cases el [a]with
 |some w=>rfl
 |none=>
  simp only[Option.map_none,optE]
  rw[MD,aa]
  cases bj.contains [a]with
  |true=>exact B5 _ _ _ _ _ _
  |false=>exact B6 _ _ _
theorem OT {a c:UInt8}{m e:Nat}{x y:Int}{z:List UInt8}:Jz (ev E) (a.toNat:Int) (m:Int) (c.toNat:Int) (e:Int) [a,c] x y z μ=some (stT μ jq gV (if c≠0∧bj.contains [a,c]then .ok (⟨2,0,[a,c]⟩,e)else one a m)):=by
 refine aT ?_
 have hone:kS (ev E) iP [] [(4,0),(5,0)] (stT μ lu lw (one a m))=some (stT μ jq gV (one a m)):=by
  cases one a m with
  |ok q=>exact DE _ _ _ _ _ _
  |error e=>exact DF _ _ _
 rw[N7,og,Ct,aa,hone,Ht]
 simp only[ac,aq,aa,ak,am,ah,ae,aj,ay,cond_true,cond_false,Bool.not_true,Bool.not_false,au,ar,ao]
 rw[wW (l:=bj) (by decide)]
 simp only[ac,aq,aa,ak,am,ah,ae,aj,ay,cond_true,cond_false,Bool.not_true,Bool.not_false,au,ar,ao]
 by_cases hc:c=0
 ·subst hc;rfl
 ·have h1:(c != 0)=true:=by simp[hc]
  rw[h1]
  simp only[ac,aq,aa,ak,am,ah,ae,aj,ay,cond_true,cond_false,Bool.not_true,Bool.not_false,au,ar,ao,hc,ne_eq,not_false_eq_true,true_and]
  cases bj.contains [a,c]with
  |true=>rfl
  |false=>
   rw[cond_false,Ct,aa,hone]
   rfl
theorem R9 {l i:Nat}{r:List LV}(h:Sc μ l i s fx r)(hs:s.length≤200000){n:Nat}(hn:n≤s.length):
  (ev E).call 174 [LV.cv (CV.ref l i 0),LV.int .i64 (n:Int)] μ=some (sD μ (dQ fx s n)):=by
 have hle:=gv (fx:=fx) hn
 refine aJ ?_
 rw[Uj,hZ h (by omega) hn]
 simp only[ac,aq,aa,ak,am,ah,ae,aj,ay,cond_true,cond_false,Bool.not_true,Bool.not_false,au,ar,ao]
 rw[hZ h (by omega) hle]
 simp only[ac,aq,aa,ak,am,ah,ae,aj,ay,cond_true,cond_false,Bool.not_true,Bool.not_false,au,ar,ao]
 rw[RK,aa,LH,ac]
 simp only[ac,aq,aa,ak,am,ah,ae,aj,ay,cond_true,cond_false,Bool.not_true,Bool.not_false,au,ar,ao,fi,BK,FI,wJ]
 unfold dQ
 simp only
 rw[OT,aa]
 cases el [atC fx s n,atC fx s (atE fx s n)]with
 |some w=>rfl
 |none=>
  simp only[Option.map_none,optE]
  have: ∀q:Except Int (Tok×Nat),kB (ev E) 174 iP [] (stT μ jq gV q)=some (sD μ q):=by
   intro q
   cases q with
   |ok q=>exact DC _ _ _ _ _ _
   |error e=>exact DD _ _ _
  rw[this]
  rfl
def noK:Except Int (Tok×Nat)→Except Int (Tok×Nat×List Nat)
 | .ok q=> .ok (q.1,q.2,[])
 | .error e=> .error e
def cD (w:List UInt8):Tok:=if w=fe∨w=en then⟨1,5,w⟩else⟨2,0,w⟩
def ct (fx:Bool)(s:List UInt8)(n:Nat)(c:UInt8):Except Int (Tok×Nat×List Nat):=
 if aV c then(if 31<(cw fx aY s n).length then .error 4 else .ok (⟨0,0,up (cw fx aY s n)⟩,runE fx aY s n,[]))
 else if av c||(decide (c=46)&&av (atC fx s (n+1)))then noK (b9 fx s n)
 else if c=46 then(if(br fx s n).2.2 then .ok (cD (br fx s n).1,(br fx s n).2.1,[])else .error 7)
 else if c=39∨c=34 then dw s n
 else noK (dQ fx s n)
def d5 (fx:Bool)(s:List UInt8)(out:List Tok)(n:Nat):Except Int (Tok×Nat×List Nat):=
 if vK fx out&&av ((s[n]?).getD 0)&&decide (mi fx s n)then oe fx s n else ct fx s n ((s[n]?).getD 0)
def stK (b:Mu)(s:List UInt8)(fx:Bool)(out:List Tok)(kept:List Nat):Except Int (Tok×Nat×List Nat)→St
 | .ok q=>cR (q.2.1:Int) q.1.kind q.1.type q.1.text (scM b s fx out (kept++q.2.2))
 | .error e=>bC (gR e) (scM b s fx out kept)
theorem Gr {q:Except Int (Tok×Nat)}:stT (scM b s fx out kept) cR bC q=stK b s fx out kept (noK q):=by
 cases q with
 |ok q=>simp only[stT,noK,stK,List.append_nil]
 |error e=>rfl
theorem MB {w:List UInt8}{e:Nat}{x y:Int}{z:List UInt8}:(opt (jm (ev E) w (e:Int) x y z μ) (kS (ev E) eF [.block 0,.seq (cA 148 [1,1,1,1,1])] [(4,0),(5,0)]))=some (cR (e:Int) (cD w).kind (cD w).type (cD w).text μ):=by
 have:jm (ev E) w (e:Int) x y z μ=some (jP (e:Int) (cD w).kind (cD w).type (cD w).text μ):=by
  refine aT ?_
  rw[LU]
  have h3:([46,84,82,85,69,46]:List UInt8)=fe:=rfl
  have h4:([46,70,65,76,83,69,46]:List UInt8)=en:=rfl
  rw[h3,h4]
  unfold cD
  by_cases h1:w=fe
  ·simp[h1]
  ·by_cases h2:w=en
   ·simp[h2]
   ·simp[h1,h2]
 rw[this,aa,BX]
theorem MC (hs:s.length≤200000){n:Nat}(hn:n≤s.length){x y:Int}{z:List UInt8}:(opt (ow (ev E) b.length 0 (n:Int) x y z (scM b s fx out kept)) (kS (ev E) eF [] [(4,0),(5,0)]))=some (stK b s fx out kept (noK (dQ fx s n))):=by
 have:ow (ev E) b.length 0 (n:Int) x y z (scM b s fx out kept)=some (stT (scM b s fx out kept) pt pw (dQ fx s n)):=by
  refine aT ?_
  rw[LW,R9 lk hs hn]
  cases dQ fx s n with
  |ok q=>simp only[sD,ac,aq,aa,ak,am,ah,ae,aj,ay,cond_true,cond_false,Bool.not_true,Bool.not_false,au,ar,ao,bx];rfl
  |error e=>rfl
 rw[this,aa,←Gr]
 cases dQ fx s n with
 |ok q=>exact BY _ _ _ _ _ _
 |error e=>exact BZ _ _ _
theorem OR (hs:s.length≤200000)(hk:kept.length≤200000){n:Nat}(hn:n<s.length){x y:Int}{z:List UInt8}:qZ (ev E) b.length 0 (n:Int) (((s[n]?).getD 0).toNat:Int) x y z (scM b s fx out kept)=some (stK b s fx out kept (ct fx s n ((s[n]?).getD 0))):=by
 have h:=lk (b:=b) (s:=s) (fx:=fx) (out:=out) (kept:=kept)
 have e46: ∀c:UInt8,decide ((c.toNat:Int)=46)=decide (c=46):=fun c=>cq (k:=46) (by omega)
 have e39: ∀c:UInt8,decide ((c.toNat:Int)=39)=decide (c=39):=fun c=>cq (k:=39) (by omega)
 have e34: ∀c:UInt8,decide ((c.toNat:Int)=34)=decide (c=34):=fun c=>cq (k:=34) (by omega)
 have w1:IntKind.wrap .i64 ((n:Int)+1)=((n+1:Nat):Int):=by rw[cu (by omega) (by omega)];omega
 have hr:=jl (fx:=fx) (s:=s) (p:=aY) (n:=n)
 obtain⟨c,hc⟩: ∃c,c=(s[n]?).getD 0:=⟨_,rfl⟩
 rw[←hc]
 have hnum: ∀{k1 k2:CV→Mu→Option St},callK (some (sD (scM b s fx out kept) (b9 fx s n))) (fun v μ=>opt (aS v) fun xs=>opt (aA xs) fun q=>cT q.1 fun n1 n2 s3=>opt (aA q.2) fun q2=>opt (aF .i64 q2.1) fun n4=>opt (aO q2.2) fun u=>some (cR n4 n1 n2 s3 μ)) (fun v μ=>some (bC v μ))=some (stK b s fx out kept (noK (b9 fx s n))):=by
  intro k1 k2
  rw[←Gr]
  cases b9 fx s n with
  |ok q=>simp only[sD,ac,aq,aa,ak,am,ah,ae,aj,ay,cond_true,cond_false,Bool.not_true,Bool.not_false,au,ar,ao,bx];rfl
  |error e=>rfl
 have hquo:callK (some (yx b s fx out kept (dw s n))) (fun v μ=>opt (aS v) fun xs=>opt (aA xs) fun q=>cT q.1 fun n1 n2 s3=>opt (aA q.2) fun q2=>opt (aF .i64 q2.1) fun n4=>opt (aO q2.2) fun u=>some (cR n4 n1 n2 s3 μ)) (fun v μ=>some (bC v μ))=some (stK b s fx out kept (dw s n)):=by
  cases dw s n with
  |ok q=>simp only[yx,ac,aq,aa,ak,am,ah,ae,aj,ay,cond_true,cond_false,Bool.not_true,Bool.not_false,au,ar,ao,bx];rfl
  |error e=>rfl
 refine aT ?_
 rw[NV,w1,hZ h (by omega) (by omega)]
 simp only[ac,aq,aa,ak,am,ah,ae,aj,ay,cond_true,cond_false,Bool.not_true,Bool.not_false,au,ar,ao]
 rw[Ad]
 simp only[ac,aq,aa,ak,am,ah,ae,aj,ay,cond_true,cond_false,Bool.not_true,Bool.not_false,au,ar,ao]
 unfold ct
 cases hlet:aV c with
 |true=>
  rw[cond_true,oT h (by omega) (fun c=>TU) (by omega)]
  simp only[ac,aq,aa,ak,am,ah,ae,aj,ay,cond_true,cond_false,Bool.not_true,Bool.not_false,au,ar,ao,if_true]
  by_cases h31:31<(cw fx aY s n).length
  ·have:decide ((31:Int)<((cw fx aY s n).length:Int))=true:=by simp;omega
   rw[this,cond_true,j4,eh,if_pos h31]
   rfl
  ·have:decide ((31:Int)<((cw fx aY s n).length:Int))=false:=by simp;omega
   rw[this,cond_false,Hx (by omega),ac,ah,aa,if_neg h31]
   simp only[stK,List.append_nil]
 |false=>
  rw[cond_false,lJ]
  simp only[ac,aq,aa,ak,am,ah,ae,aj,ay,cond_true,cond_false,Bool.not_true,Bool.not_false,au,ar,ao,Bool.false_eq_true,if_false,e46,e39,e34]
  have hdot: ∀(o:Option St),(decide (c=46)&&av (atC fx s (n+1)))=false→av c=false→
    cond (decide (c = 46)) (callK ((ev E).call 172 [LV.cv (CV.ref b.length 0 0), LV.int .i64 (n : Int)] (scM b s fx out kept)) (fun v103 μ104 =>
     opt (aS v103) fun xs107=>
     opt (aA xs107) fun q108=>
     opt (aL q108.1) fun s109=>
     opt (aA q108.2) fun q110=>
     opt (aF .i64 q110.1) fun n111=>
     opt (aA q110.2) fun q112=>
     opt (aM q112.1) fun b113=>
     opt (aO q112.2) fun u114=>
     cond (!b113) (
     callK ((ev E).call 170 [LV.int .i64 (7 : Int)] μ104) (fun v115 μ116 =>
     opt (aS v115) fun xs119=>
     opt (aO xs119) fun u120=>
     opt (jm (ev E) s109 n111 x y z μ116) (kS (ev E) eF [.block 0,.seq (cA 148 [1,1,1,1,1])] [(4,0),(5,0)])) (fun v118 μ117=>
     some (bC v118 μ117))) (
     opt (jm (ev E) s109 n111 x y z μ104) (kS (ev E) eF [.block 0,.seq (cA 148 [1,1,1,1,1])] [(4,0),(5,0)]))) (fun v106 μ105=>
     some (bC v106 μ105))) o=if c=46 then some (stK b s fx out kept (if(br fx s n).2.2 then .ok (cD (br fx s n).1,(br fx s n).2.1,[])else .error 7))else o:=by
   intro o h1 h2
   by_cases h46:c=46
   ·have:decide (c=46)=true:=by simp[h46]
    rw[this,cond_true,LF h hs (by omega),if_pos h46]
    simp only[ac,aq,aa,ak,am,ah,ae,aj,ay,cond_true,cond_false,Bool.not_true,Bool.not_false,au,ar,ao]
    cases hd:(br fx s n).2.2 with
    |true=>
     rw[Bool.not_true,cond_false,MB]
     simp only[if_true,stK,List.append_nil]
    |false=>
     rw[Bool.not_false,cond_true,j4,eh]
     rfl
   ·have:decide (c=46)=false:=by simp[h46]
    rw[this,cond_false,if_neg h46]
  have htail: ∀(o1:Option St),o1=some (stK b s fx out kept (dw s n))→
    cond (decide (c=39)) o1 (cond (decide (c=34)) o1 (opt (ow (ev E) b.length 0 (n:Int) x y z (scM b s fx out kept)) (kS (ev E) eF [] [(4,0),(5,0)])))=
     some (stK b s fx out kept (if c=39∨c=34 then dw s n else noK (dQ fx s n))):=by
   intro o1 ho
   rw[MC hs (by omega),ho]
   by_cases h1:c=39
   ·simp[h1]
   ·by_cases h2:c=34
    ·simp[h2]
    ·simp[h1,h2]
  cases hdig:av c with
  |true=>
   rw[cond_true,LE h hs (by omega)]
   simp only[Bool.true_or,if_true]
   exact hnum (k1:=fun _ _=>none) (k2:=fun _ _=>none)
  |false=>
   rw[cond_false]
   by_cases h46:c=46
   ·have h1:decide (c=46)=true:=by simp[h46]
    rw[h1,cond_true,lJ]
    simp only[ac,aq,aa,ak,am,ah,ae,aj,ay,cond_true,cond_false,Bool.not_true,Bool.not_false,au,ar,ao,Bool.false_or,Bool.true_and]
    cases hd2:av (atC fx s (n+1))with
    |true=>
     rw[cond_true,LE h hs (by omega)]
     simp only[if_true]
     exact hnum (k1:=fun _ _=>none) (k2:=fun _ _=>none)
    |false=>
     have:=hdot none (by rw[hd2];simp) hdig
     rw[h1,cond_true]at this
     simp only[ac,aq,aa,ak,am,ah,ae,aj,ay,cond_true,cond_false,Bool.not_true,Bool.not_false,au,ar,ao,Bool.false_eq_true,if_false]
     rw[this,if_pos h46,if_pos h46]
   ·have h1:decide (c=46)=false:=by simp[h46]
    rw[h1,cond_false,cond_false,R8 hs hk hn]
    simp only[Bool.false_or,Bool.false_and,Bool.false_eq_true,if_false]
    rw[if_neg h46]
    exact htail _ hquo
theorem LD (hs:s.length≤200000)(hk:kept.length≤200000)(ho:out.length≤200000){n:Nat}(hn:n<s.length):
  (ev E).call 148 [LV.cv (CV.ref b.length 0 0),LV.int .i64 (n:Int)] (scM b s fx out kept)=some (yx b s fx out kept (d5 fx s out n)):=by
 have h:=lk (b:=b) (s:=s) (fx:=fx) (out:=out) (kept:=kept)
 have hfin: ∀{x y:Int} {z:List UInt8},(opt (qZ (ev E) b.length 0 (n:Int) (((s[n]?).getD 0).toNat:Int) x y z (scM b s fx out kept)) (kB (ev E) 148 eF []))=some (yx b s fx out kept (ct fx s n ((s[n]?).getD 0))):=by
  intro x y z
  rw[OR hs hk hn,aa]
  cases ct fx s n ((s[n]?).getD 0)with
  |ok q=>exact Do _ _ _ _ _ _
  |error e=>exact Dp _ _ _
 refine aJ ?_
 have hg:s[n]? =some ((s[n]?).getD 0):=by rw[List.getElem?_eq_getElem hn,Option.getD_some]
 rw[Ua,h,fA,dq,aa,ah,aa,jG,hg,aa,R6 ho]
 simp only[ac,aq,aa,ak,am,ah,ae,aj,ay,cond_true,cond_false,Bool.not_true,Bool.not_false,au,ar,ao]
 unfold d5
 cases hm:vK fx out with
 |false=>
  rw[cond_false,hfin]
  rfl
 |true=>
  rw[cond_true,lJ]
  simp only[ac,aq,aa,ak,am,ah,ae,aj,ay,cond_true,cond_false,Bool.not_true,Bool.not_false,au,ar,ao]
  cases hd:av ((s[n]?).getD 0)with
  |false=>
   rw[cond_false,hfin]
   rfl
  |true=>
   rw[cond_true,R7 hs hk (by omega)]
   by_cases hh:mi fx s n
   ·simp only[hh,if_true,Bool.true_and,decide_true]
    cases oe fx s n with
    |ok q=>simp only[OB,ac,aq,aa,ak,am,ah,ae,aj,ay,cond_true,cond_false,Bool.not_true,Bool.not_false,au,ar,ao,bx];rfl
    |error e=>rfl
   ·simp only[hh,if_false,Bool.true_and,decide_false,Bool.false_eq_true]
    simp only[ac,aq,aa,ak,am,ah,ae,aj,ay,cond_true,cond_false,Bool.not_true,Bool.not_false,au,ar,ao,bx]
    exact hfin
end
end Go.Abs
set_option linter.unusedVariables false
set_option linter.unusedSimpArgs false
set_option maxRecDepth 100000
namespace Go.Abs
open Go Go.Proofs
section
variable {b:Mu}{s:List UInt8}{fx:Bool}{out:List Tok}{kept:List Nat}{μ:Mu}
theorem Rt {n:Nat}{c:UInt8}(h:s[n]? =some c)(hc:c≠32):skipN fx s n=n:=by
 unfold skipN
 split
 ·have hn:n<s.length:=by
   rcases Nat.lt_or_ge n s.length with h1|h1
   ·exact h1
   ·rw[List.getElem?_eq_none h1]at h;cases h
  have hd:s.drop n=s[n]::s.drop (n+1):=List.drop_eq_getElem_cons hn
  rw[List.getElem?_eq_getElem hn]at h
  injection h with h
  rw[hd,aQ,h,if_neg hc]
  rfl
 ·rfl
theorem ge {n:Nat}{c:UInt8}(h:s[n]? =some c):n<s.length:=by
 rcases Nat.lt_or_ge n s.length with h1|h1
 ·exact h1
 ·rw[List.getElem?_eq_none h1]at h;cases h
theorem oG {n:Nat}{c:UInt8}(h:s[n]? =some c)(hc:c≠32):atC fx s n=c∧atE fx s n=n+1:=by
 have hn:=ge h
 unfold atC atE
 rw[Rt h hc,h]
 exact⟨rfl,by rw[if_pos hn]⟩
theorem oH {n:Nat}:n≤atE fx s n:=by
 have:=Cx (fx:=fx) (s:=s) (n:=n)
 unfold atE
 split<;>omega
theorem mI {p:UInt8→Bool}{n:Nat}:n≤runE fx p s n:=by unfold runE;omega
theorem Gn {p:UInt8→Bool}{n:Nat}{c:UInt8}(h:s[n]? =some c)(hc:c≠32)(h0:c≠0)(hp:p c=true):n+1≤runE fx p s n:=by
 obtain⟨h1,h2⟩:=oG (fx:=fx) h hc
 have:=(zr (fx:=fx) (s:=s) (p:=p) (n:=n) (by rw[h1,hp];simp[h0])).2
 rw[this,h2]
 exact mI
def Gx (s:List UInt8)(n:Nat):Except Int (Tok×Nat×List Nat)→Prop
 | .ok q=>n<q.2.1∧q.2.1≤s.length∧q.2.2.length+n≤q.2.1
 | .error _=>True
theorem NF {n:Nat}(hn:n≤s.length):n≤(aP fx s n).2.2.1∧(aP fx s n).2.2.1≤s.length:=by
 unfold aP
 have hle:=gv (fx:=fx) hn
 have hle2:=gv (fx:=fx) hle
 have hst:expStart fx s n≤s.length:=by unfold expStart;split<;>assumption
 have hst2:n≤expStart fx s n:=by
  have h1:=oH (fx:=fx) (s:=s) (n:=n)
  have h2:=oH (fx:=fx) (s:=s) (n:=atE fx s n)
  unfold expStart;split<;>omega
 split
 ·have h1:=mI (fx:=fx) (s:=s) (p:=av) (n:=expStart fx s n)
  have h2:=iG (fx:=fx) (p:=av) hst
  simp only
  omega
 ·simp only;omega
theorem OL {whole part digits:List UInt8}{letter:UInt8}{ok:Bool}{e:Nat}{q:Tok×Nat}(h:real whole part digits letter ok e= .ok q):q.2=e:=by
 unfold real at h
 split at h
 ·cases h
 ·injection h with h
  rw[←h]
theorem D7 {n:Nat}{c:UInt8}(h:s[n]? =some c)(hc:av c=true∨c=46):Gx s n (noK (b9 fx s n)):=by
 have hn:=ge h
 have h32:c≠32:=by
  rintro rfl
  rcases hc with h1|h1
  ·exact absurd h1 (by decide)
  ·exact absurd h1 (by decide)
 have h0:c≠0:=by
  rintro rfl
  rcases hc with h1|h1
  ·exact absurd h1 (by decide)
  ·exact absurd h1 (by decide)
 obtain⟨ha,hb⟩:=oG (fx:=fx) h h32
 have hle:=iG (fx:=fx) (p:=av) (Nat.le_of_lt hn)
 have hle2:=gv (fx:=fx) hle
 have hle3:=iG (fx:=fx) (p:=av) hle2
 have hend:numEnd fx s n≤s.length:=by unfold numEnd;split<;>assumption
 have hgt:n<numEnd fx s n:=by
  have g1:=mI (fx:=fx) (p:=av) (s:=s) (n:=n)
  have g2:=oH (fx:=fx) (s:=s) (n:=runE fx av s n)
  have g3:=mI (fx:=fx) (p:=av) (s:=s) (n:=atE fx s (runE fx av s n))
  rcases hc with hd|hd
  ·have:=Gn (fx:=fx) h h32 h0 hd
   unfold numEnd;split<;>omega
  ·obtain⟨e1,e2⟩:=qD (fx:=fx) (s:=s) (p:=av) (n:=n) (by rw[ha,hd];decide)
   have hdot:cr fx s n=true:=by
    unfold cr bG
    rw[e2,ha,e1,hd]
    simp
   unfold numEnd
   rw[if_pos hdot,e2,hb]
   rw[e2,hb]at g3
   omega
 have hx:=NF (fx:=fx) (s:=s) hend
 unfold b9
 simp only
 split
 ·cases cg (bG fx s n)with
  |ok t=>exact⟨hgt,hend,by simp;omega⟩
  |error e=>trivial
 ·cases hr:real (bG fx s n) (dg fx s n) (aP fx s (numEnd fx s n)).2.1 (aP fx s (numEnd fx s n)).1 (aP fx s (numEnd fx s n)).2.2.2 (if(aP fx s (numEnd fx s n)).2.2.2 then(aP fx s (numEnd fx s n)).2.2.1 else numEnd fx s n)with
  |error e=>trivial
  |ok q=>
   have:=OL hr
   refine⟨?_,?_,?_⟩
   ·show n<q.2
    rw[this];split<;>omega
   ·show q.2≤s.length
    rw[this];split<;>omega
   ·show 0+n≤q.2
    rw[this];split<;>omega
theorem Ek {n:Nat}(hn:n<s.length):Gx s n (dw s n):=by
 unfold dw cE
 cases hq:bW ((s[n]?).getD 0) (s.drop (n+1))with
 |none=>trivial
 |some x=>
  obtain⟨t,k⟩:=x
  have:=nR _ _ (Nat.le_refl _) t k hq
  rw[List.length_drop]at this
  simp only
  split
  ·rename_i q heq
   split at heq
   ·cases heq
   ·injection heq with heq
    subst heq
    refine⟨?_,?_,?_⟩
    ·show n<n+1+k
     omega
    ·show n+1+k≤s.length
     omega
    ·show (List.range' n (n+1+k-n)).length+n≤n+1+k
     simp;omega
  ·trivial
theorem Rj {n:Nat}{c:UInt8}(h:s[n]? =some c)(hc:c≠32):Gx s n (noK (dQ fx s n)):=by
 have hn:=ge h
 obtain⟨ha,hb⟩:=oG (fx:=fx) h hc
 have g1:=oH (fx:=fx) (s:=s) (n:=n+1)
 have g2:=gv (fx:=fx) (s:=s) (n:=n+1) hn
 unfold dQ
 simp only[hb]
 split
 ·exact⟨by show n<atE fx s (n+1);omega,g2,by show 0+n≤atE fx s (n+1);omega⟩
 ·split
  ·exact⟨by show n<atE fx s (n+1);omega,g2,by show 0+n≤atE fx s (n+1);omega⟩
  ·split
   ·exact⟨by show n<n+1;omega,hn,by show 0+n≤n+1;omega⟩
   ·split
    ·exact⟨by show n<n+1;omega,hn,by show 0+n≤n+1;omega⟩
    ·trivial
theorem mv {n:Nat}{c:UInt8}(h:s[n]? =some c)(hc:c≠32):Gx s n (d5 fx s out n):=by
 have hn:=ge h
 obtain⟨ha,hb⟩:=oG (fx:=fx) h hc
 unfold d5
 rw[h,Option.getD_some]
 split
 ·rename_i hh
  simp only[Bool.and_eq_true,decide_eq_true_eq]at hh
  obtain⟨_,hN⟩:=hh
  unfold oe
  split
  ·trivial
  ·rename_i hlen
   have g1:=mI (fx:=fx) (p:=av) (s:=s) (n:=n)
   have g2:=oH (fx:=fx) (s:=s) (n:=runE fx av s n)
   have g3:runE fx av s n≤holE fx s n:=g2
   have g4:=hN.2.1
   refine⟨?_,?_,?_⟩
   ·show n<holE fx s n+(fG fx s n).toNat
    omega
   ·show holE fx s n+(fG fx s n).toNat≤s.length
    omega
   ·show (List.range' (holE fx s n) (fG fx s n).toNat).length+n≤holE fx s n+(fG fx s n).toNat
    simp;omega
 ·unfold ct
  split
  ·rename_i hl
   have h0:c≠0:=by rintro rfl;exact absurd hl (by decide)
   have hp:aY c=true:=by unfold aY;rw[hl];rfl
   have g1:=Gn (fx:=fx) h hc h0 hp
   have g2:=iG (fx:=fx) (p:=aY) (Nat.le_of_lt hn)
   split
   ·trivial
   ·exact⟨by show n<runE fx aY s n;omega,g2,by show 0+n≤runE fx aY s n;omega⟩
  ·split
   ·rename_i hd
    refine D7 h ?_
    rw[Bool.or_eq_true,Bool.and_eq_true,decide_eq_true_eq]at hd
    rcases hd with hd|hd
    ·exact Or.inl hd
    ·exact Or.inr hd.1
   ·split
    ·rename_i h46
     subst h46
     split
     ·have e:br fx s n=(cP fx s n,dotEnd fx s n,dY fx s n):=by unfold br;rw[if_pos ha]
      rw[e]
      have g1:=mI (fx:=fx) (p:=aV) (s:=s) (n:=atE fx s n)
      have g2:=oH (fx:=fx) (s:=s) (n:=runE fx aV s (atE fx s n))
      have g3:=gv (fx:=fx) (Nat.le_of_lt hn)
      have g4:=iG (fx:=fx) (p:=aV) g3
      have g5:=gv (fx:=fx) g4
      have g6:runE fx aV s (atE fx s n)≤dotEnd fx s n:=g2
      rw[hb]at g1 g6
      exact⟨by show n<dotEnd fx s n;omega,g5,by show 0+n≤dotEnd fx s n;omega⟩
     ·trivial
    ·split
     ·exact Ek hn
     ·exact Rj h hc
def bS (fx:Bool)(s:List UInt8):Nat→Nat→List Tok→List Nat→Option (Nat×Int)×List Tok×List Nat
 |0,_,out,kept=>(none,out,kept)
 |k+1,n,out,kept=>
  if s.length≤n+aQ (s.drop n)then(none,out,kept)
  else match d5 fx s out (n+aQ (s.drop n))with
   | .error e=>(some (n+aQ (s.drop n),e),out,kept)
   | .ok q=>bS fx s k q.2.1 (out++[q.1]) (kept++q.2.2)
def ND (b:Mu)(s:List UInt8)(fx:Bool):Option (Nat×Int)×List Tok×List Nat→St
 |(none,out,kept)=>rE 0 0 (scM b s fx out kept)
 |(some (n,e),out,kept)=>rF (gR e) (n:Int) 0 (scM b s fx out kept)
theorem NR {l i:Nat}{r:List LV}(h:Sc μ l i s fx r)(hs:s.length≤1000000): ∀(k n:Nat),n+k=s.length→xV (ev E) l i (n:Int) 0 μ=some (md l i ((n+aQ (s.drop n):Nat):Int) 0 μ):=by
 intro k
 induction k with
 |zero=>
  intro n hk
  refine ba ?_
  rw[zg,h]
  simp only[aa,fA,dq,ah]
  have:List.drop n s=[]:=List.drop_eq_nil_of_le (by omega)
  have h1:decide ((n:Int)<(s.length:Int))=false:=by simp;omega
  rw[h1,this]
  simp[aQ]
 |succ k ih=>
  intro n hk
  refine ba ?_
  rw[zg,h]
  simp only[aa,fA,dq,ah]
  have h1:decide ((n:Int)<(s.length:Int))=true:=by simp;omega
  have hn:n<s.length:=by omega
  rw[h1,jG,List.getElem?_eq_getElem hn,aa]
  have hd:List.drop n s=s[n]::List.drop (n+1) s:=List.drop_eq_getElem_cons hn
  have e:IntKind.wrap .i64 ((n:Int)+1)=((n+1:Nat):Int):=by rw[cu (by omega) (by omega)];omega
  have e32: ∀c:UInt8,decide ((c.toNat:Int)=32)=decide (c=32):=fun c=>cq (k:=32) (by omega)
  rw[e,ih (n+1) (by omega),e32,hd,aQ]
  by_cases hc:s[n]=32
  ·simp only[hc,decide_true,cond_true,if_true]
   congr 2
   omega
  ·simp only[hc,decide_false,cond_false,cond_true,if_false]
   rfl
theorem p8 {n:Nat}(h:n+aQ (s.drop n)<s.length): ∃c,s[n+aQ (s.drop n)]? =some c∧c≠32:=by
 refine⟨s[n+aQ (s.drop n)],List.getElem?_eq_getElem h,?_⟩
 have hd:=List.drop_eq_getElem_cons h
 refine lc (s.drop n) _ (s.drop (n+aQ (s.drop n)+1)) ?_
 rw[List.drop_drop]
 exact hd
theorem QA (hs:s.length≤200000): ∀(k n:Nat) (out:List Tok) (kept:List Nat),s.length<n+k→n≤s.length→out.length≤n→kept.length≤n→
  AD (ev E) b.length 0 (n:Int) 0 (scM b s fx out kept)=some (ND b s fx (bS fx s k n out kept)):=by
 intro k
 induction k with
 |zero=>intro n out kept hk hn ho hq;omega
 |succ k ih=>
  intro n out kept hk hn ho hq
  have h:=lk (b:=b) (s:=s) (fx:=fx) (out:=out) (kept:=kept)
  have hb:=ju (s.drop n)
  rw[List.length_drop]at hb
  refine ba ?_
  rw[Ox,NR h (by omega) (s.length-n) n (by omega),aa,B7,h,fA,dq,aa,ah,aa]
  unfold bS
  by_cases hm:s.length≤n+aQ (s.drop n)
  ·have:decide ((s.length:Int)≤((n+aQ (s.drop n):Nat):Int))=true:=by simp;omega
   rw[this,cond_true,if_pos hm]
   rfl
  ·have:decide ((s.length:Int)≤((n+aQ (s.drop n):Nat):Int))=false:=by simp;omega
   rw[this,cond_false,if_neg hm]
   obtain⟨c,hc1,hc2⟩:=p8 (s:=s) (n:=n) (by omega)
   have hf:=mv (fx:=fx) (out:=out) hc1 hc2
   obtain⟨m,hmd⟩: ∃m,m=n+aQ (s.drop n):=⟨_,rfl⟩
   rw[←hmd]at hm hf ⊢
   cases ht:d5 fx s out m with
   |error e=>
    have hG:At (ev E) b.length 0 (m:Int) 0 (scM b s fx out kept)=some (rf (gR e) (m:Int) 0 (scM b s fx out kept)):=by
     refine aT ?_
     rw[BN,LD hs (by omega) (by omega) (by omega),ht]
     rfl
    rw[hG,aa,Dl]
    rfl
   |ok q=>
    rw[ht]at hf
    obtain⟨f1,f2,f3⟩:=hf
    have hG:At (ev E) b.length 0 (m:Int) 0 (scM b s fx out kept)=some (re b.length 0 (q.2.1:Int) 0 (scM b s fx (out++[q.1]) (kept++q.2.2))):=by
     refine aT ?_
     rw[BN,LD hs (by omega) (by omega) (by omega),ht]
     simp only[yx,ac,aq,aa,ak,am,ah,ae,aj,ay,cond_true,cond_false,Bool.not_true,Bool.not_false,au,ar,ao,bx]
     unfold scM
     rw[o8]
     unfold scO
     rw[UB,aa,Ml,aa]
     have ha:[CV.agg [CV.int .i64 q.1.kind,CV.int .i64 q.1.type,CV.str q.1.text]]=aw [q.1]:=rfl
     have hc:CV.agg [CV.int .i64 q.1.kind,CV.int .i64 q.1.type,CV.str q.1.text]=q.1.cv:=rfl
     rw[ha,p3 (by simp;omega),ay]
     have hbl:bN (b.length+1) (aw out++aw [q.1])=true:=by
      have:aw out++aw [q.1]=aw (out++[q.1]):=by simp[aw]
      rw[this];exact k9 _
     rw[hbl,ay,pb,o8,Tk,aa,pb]
     have e2:aw [q.1]=[q.1.cv]:=rfl
     rw[e2,Tc]
    rw[hG,aa,Dk,ih q.2.1 _ _ (by omega) f2 (by simp;omega) (by simp;omega)]
theorem yz (b:Mu)(x:Lam):dz (b++[x])=some (b,x):=by simp[dz]
theorem M3 {e:Int}:bI E.P 25 (.cells [LV.int .i64 (0:Int)]) 0 (LV.int .i64 e)=some (.cells [LV.int .i64 e]):=by kernel_rfl
theorem Cn {e:Int}:bB E.P 25 (aH [Ob.cells [LV.int .i64 e]] 0) 0=some (LV.int .i64 e):=by kernel_rfl
def ck:Option (Nat×Int)→Nat×Int
 |none=>(0,0)
 |some q=>q
theorem RZ (hs:s.length≤200000){r:Option (Nat×Int)×List Tok×List Nat}(hr:bS fx s (s.length+1) 0 [] []=r):
  (ev E).call 118 [LV.cv (CV.ref b.length 0 0)] (scM b s fx [] [])=some (.ret (.ltup [LV.int .i64 ((ck r.1).1:Int),LV.int .i64 (ck r.1).2]) (scM b s fx r.2.1 r.2.2)):=by
 refine aJ ?_
 have hl:=QA (b:=b) (fx:=fx) hs (s.length+1) 0 [] [] (by omega) (by omega) (by simp) (by simp)
 have e0:((0:Nat):Int)=0:=rfl
 rw[hr,e0]at hl
 rw[T4,hl,aa]
 obtain⟨x,o,q⟩:=r
 cases x with
 |none=>
  simp only[ND]
  have hd:(ev E).dcall 147 none [LV.cv (CV.ref (scM b s fx o q).length 0 0)] (scM b s fx o q++[[Ob.cells [LV.int .i64 0]]])=some (scM b s fx o q++[[Ob.cells [LV.int .i64 0]]]):=Bu (by rw[QI])
  rw[DT,hd,aa,yz,aa]
  simp only[Cn,aa,ck]
  rfl
 |some w=>
  obtain⟨n,e⟩:=w
  simp only[ND]
  have hd:(ev E).dcall 147 (some (gR e)) [LV.cv (CV.ref (scM b s fx o q).length 0 0)] (scM b s fx o q++[[Ob.cells [LV.int .i64 0]]])=some (scM b s fx o q++[[Ob.cells [LV.int .i64 e]]]):=by
   refine Bu ?_
   unfold gR
   rw[QJ,o8,M3,aa,pb]
  rw[DU,hd,aa,yz,aa]
  simp only[Cn,aa,ck]
  rfl
def df (s:List UInt8):Bool:= !(s.any fun b=>decide (b.toNat<32)||decide (126<b.toNat))
def bp (s:List UInt8):Int:=if 1320<s.length then 8 else if df s then 0 else 3
theorem Hs {g:FuncId}{p:UInt8→Bool}(hg:lQ g=some p):(ev E).call 43 [LV.str s,LV.cv (CV.clo g [])] μ=some (.ret (LV.bool (s.any p)) μ):=by
 refine dG (g:=gx lQ) (by kernel_rfl) ?_
 simp only[gx,ak,aa,aj,ah,hg]
theorem TT:(ev E).call 85 [LV.str s] μ=some (.ret (LV.bool (df s)) μ):=by
 refine aJ ?_
 rw[VB,Hs (g:=122) rfl]
 simp only[ac,aq,aa,ak,am,ah,ae,aj,ay,cond_true,cond_false,Bool.not_true,Bool.not_false,au,ar,ao]
 rfl
theorem RY:(ev E).call 117 [LV.str s] μ=some (.ret (LV.int .i64 (bp s)) μ):=by
 refine aJ ?_
 rw[T3,TT]
 simp only[ac,aq,aa,ak,am,ah,ae,aj,ay,cond_true,cond_false,Bool.not_true,Bool.not_false,au,ar,ao]
 unfold bp
 by_cases h:1320<s.length
 ·have:decide ((1320:Int)<(s.length:Int))=true:=by simp;omega
  rw[this,if_pos h]
  rfl
 ·have:decide ((1320:Int)<(s.length:Int))=false:=by simp;omega
  rw[this,if_neg h]
  cases df s<;>rfl
structure Scan where
 toks:List Tok
 kept:List Nat
 n:Nat
 e:Int
def bb (fx:Bool)(s:List UInt8):Scan:=
 if bp s=0 then
  let r:=bS fx s (s.length+1) 0 [] []
  if(ck r.1).2=0 then(if 300<r.2.1.length then⟨r.2.1,r.2.2,0,8⟩else⟨r.2.1,r.2.2,r.2.1.length,0⟩)else⟨r.2.1,r.2.2,(ck r.1).1,(ck r.1).2⟩
 else⟨[],[],0,bp s⟩
def mn (fx:Bool)(s:List UInt8):List CV:=if bp s=0 then [CV.str s,CV.bool fx,CV.sl (aw (bb fx s).toks),CV.sl (bE (bb fx s).kept)]else [CV.str s,CV.bool fx,CV.v (.slice none 0 0),CV.v (.slice none 0 0)]
theorem SW {α:Type}{k:Lam→Option α}:ol [(0,[0,0,1,1])] [scO s fx out kept] k=k [.cells [LV.str s,LV.bool fx,.osl (aw out),.osl (bE kept)]]:=by
 have h1:=Ml (out:=out)
 have h2:=Mk (kept:=kept)
 unfold scO
 simp only[ol,aH,List.getElem?_cons_zero,fm,wA,h1,h2,aa,List.set_cons_zero]
theorem RH {n:Nat}:below n (CV.view [CV.str s,CV.bool fx,CV.sl (aw out),CV.sl (bE kept)])=true:=by
 simp only[below,bN]
 rw[k9,nY]
theorem Hw (hs:s.length≤200000):(ev E).call 78 [LV.str s,LV.bool fx] μ=some (.ret (.ltup [LV.cv (CV.view (mn fx s)),LV.int .i64 ((bb fx s).n:Int),LV.int .i64 (bb fx s).e]) μ):=by
 refine aJ ?_
 rw[Vy,RY]
 simp only[ac,aq,aa,ak,am,ah,ae,aj,ay,cond_true,cond_false,Bool.not_true,Bool.not_false,au,ar,ao]
 by_cases ht:bp s=0
 ·have:decide (bp s=0)=true:=by simp[ht]
  rw[this,Bool.not_true,cond_false]
  obtain⟨r,hr⟩: ∃r,bS fx s (s.length+1) 0 [] []=r:=⟨_,rfl⟩
  have hsc:bb fx s=if(ck r.1).2=0 then(if 300<r.2.1.length then⟨r.2.1,r.2.2,0,8⟩else⟨r.2.1,r.2.2,r.2.1.length,0⟩)else⟨r.2.1,r.2.2,(ck r.1).1,(ck r.1).2⟩:=by
   unfold bb;rw[if_pos ht,hr]
  have htk:(bb fx s).toks=r.2.1∧(bb fx s).kept=r.2.2:=by
   rw[hsc];split
   ·split<;>exact⟨rfl,rfl⟩
   ·exact⟨rfl,rfl⟩
  have hC:mn fx s=[CV.str s,CV.bool fx,CV.sl (aw r.2.1),CV.sl (bE r.2.2)]:=by unfold mn;rw[if_pos ht,htk.1,htk.2]
  have hl:=RZ (b:=μ) (fx:=fx) hs hr
  have hlen:(aw r.2.1).length=r.2.1.length:=by simp[aw]
  have h5:Pp (ev E) s fx μ=some (if(ck r.1).2=0∧ ¬300<r.2.1.length then uU s fx (aw r.2.1) (bE r.2.2) ((bb fx s).n:Int) (bb fx s).e .dead μ else pK s fx (aw r.2.1) (bE r.2.2) ((bb fx s).n:Int) (bb fx s).e μ):=by
   refine aT ?_
   have e0:μ++[[Ob.cells [LV.str s,LV.bool fx,LV.cv (CV.v (.slice none 0 0)),LV.cv (CV.v (.slice none 0 0))]]]=scM μ s fx [] []:=rfl
   rw[Q5,e0,hl]
   simp only[ac,aq,aa,ak,am,ah,ae,aj,ay,cond_true,cond_false,Bool.not_true,Bool.not_false,au,ar,ao]
   unfold scM
   rw[yz,aa,SW]
   by_cases he:(ck r.1).2=0
   ·have h6:Gz (ev E) ((ck r.1).1:Int) (ck r.1).2 [.cells [LV.str s,LV.bool fx,.osl (aw r.2.1),.osl (bE r.2.2)]] μ=some (uW s fx (aw r.2.1) (bE r.2.2) μ):=by
     refine aT ?_
     have:decide ((ck r.1).2=0)=true:=by simp[he]
     rw[FQ,this]
     rfl
    rw[h6,aa,Ik]
    rw[hsc,if_pos he]
    by_cases h3:300<r.2.1.length
    ·have h8:GA (ev E) [.cells [LV.str s,LV.bool fx,.osl (aw r.2.1),.osl (bE r.2.2)]] μ=some (uX s fx (aw r.2.1) (bE r.2.2) 0 8 μ):=by
      refine aT ?_
      have:decide ((300:Int)<((aw r.2.1).length:Int))=true:=by rw[hlen];simp;omega
      rw[FR,this]
      rfl
     rw[h8,aa,Il,if_pos h3,if_neg (by simp[h3])]
     rfl
    ·have h8:GA (ev E) [.cells [LV.str s,LV.bool fx,.osl (aw r.2.1),.osl (bE r.2.2)]] μ=some (uY s fx (aw r.2.1) (bE r.2.2) (r.2.1.length:Int) 0 .dead μ):=by
      refine aT ?_
      have:decide ((300:Int)<((aw r.2.1).length:Int))=false:=by rw[hlen];simp;omega
      have h10:JF (ev E) s fx (aw r.2.1) (bE r.2.2) [Ob.dead] μ=some (rA s fx (aw r.2.1) (bE r.2.2) (r.2.1.length:Int) 0 .dead μ):=by
       refine aT ?_
       rw[Oj,hlen]
      rw[FR,this,cond_false,h10,aa,DO]
     rw[h8,aa,Im,if_neg h3,if_pos ⟨he,h3⟩]
   ·have h6:Gz (ev E) ((ck r.1).1:Int) (ck r.1).2 [.cells [LV.str s,LV.bool fx,.osl (aw r.2.1),.osl (bE r.2.2)]] μ=some (uV s fx (aw r.2.1) (bE r.2.2) ((ck r.1).1:Int) (ck r.1).2 μ):=by
     refine aT ?_
     have:decide ((ck r.1).2=0)=false:=by simp[he]
     rw[FQ,this]
     rfl
    rw[h6,aa,Ij,hsc,if_neg he,if_neg (by simp[he])]
  rw[h5,aa]
  have:fD μ.length (LV.ltup [LV.cv (CV.view [CV.str s,CV.bool fx,CV.sl (aw r.2.1),CV.sl (bE r.2.2)]),LV.int .i64 ((bb fx s).n:Int),LV.int .i64 (bb fx s).e])=true:=by
   simp only[fD,List.all_cons,lF,RH]
   rfl
  split
  ·rw[Ii,this,ay,hC]
  ·rw[Ih,this,ay,hC]
 ·have:decide (bp s=0)=false:=by simp[ht]
  have hC:mn fx s=[CV.str s,CV.bool fx,CV.v (.slice none 0 0),CV.v (.slice none 0 0)]:=by unfold mn;rw[if_neg ht]
  have hsc:bb fx s=⟨[],[],0,bp s⟩:=by unfold bb;rw[if_neg ht]
  rw[this,Bool.not_false,cond_true,hC,hsc]
  rfl
def bX (fx:Bool)(s:List UInt8):List Tok:=if(bb fx s).e=0 then(bb fx s).toks else []
theorem kQ (h:(bb fx s).e=0):bp s=0∧(bb fx s).n=(bb fx s).toks.length∧mn fx s=[CV.str s,CV.bool fx,CV.sl (aw (bb fx s).toks),CV.sl (bE (bb fx s).kept)]:=by
 by_cases ht:bp s=0
 ·refine⟨ht,?_,by unfold mn;rw[if_pos ht]⟩
  unfold bb at h ⊢
  rw[if_pos ht]at h ⊢
  simp only at h ⊢
  by_cases he:(ck (bS fx s (s.length+1) 0 [] []).1).2=0
  ·rw[if_pos he]at h ⊢
   by_cases h3:300<(bS fx s (s.length+1) 0 [] []).2.1.length
   ·rw[if_pos h3]at h;exact absurd h (by simp)
   ·rw[if_neg h3]
  ·rw[if_neg he]at h
   exact absurd h he
 ·unfold bb at h
  rw[if_neg ht]at h
  exact absurd h ht
theorem qk {l:List CV}:jZ (LV.cv (CV.view l))=some false:=rfl
theorem r9 {l:List CV}:gD (LV.cv (kY (CV.view l)))=some l:=rfl
theorem vE {t:List UInt8}:aL (LV.cv (CV.str t))=some t:=rfl
theorem r6 {t:Bool}:aM (LV.cv (CV.bool t))=some t:=rfl
theorem TJ (hs:s.length≤200000):(ev E).call 57 [LV.str s,LV.bool fx] μ=some (.ret (.ltup [if(bb fx s).e=0 then LV.cv (CV.sl (aw (bb fx s).toks))else yu,LV.int .i64 ((bb fx s).n:Int),LV.int .i64 (bb fx s).e]) μ):=by
 refine aJ ?_
 rw[Vo,Hw hs]
 simp only[ac,aq,aa,ak,am,ah,ae,aj,ay,cond_true,cond_false,Bool.not_true,Bool.not_false,au,ar,ao,fi]
 by_cases he:(bb fx s).e=0
 ·have h1:decide ((bb fx s).e=0)=true:=by simp[he]
  obtain⟨_,_,hC⟩:=kQ he
  have hG:Pj (ev E) (CV.view (mn fx s)) ((bb fx s).n:Int) μ=some (uR (aw (bb fx s).toks) ((bb fx s).n:Int) 0 μ):=by
   refine aT ?_
   rw[QZ,qk,aa,Bool.not_false,ay,r9,aa,hC]
   simp only[ac,aq,aa,ak,am,ah,ae,aj,ay,cond_true,cond_false,Bool.not_true,Bool.not_false,au,ar,ao,vE,r6]
  rw[h1,Bool.not_true,cond_false,hG,aa,Ib,he]
  simp
 ·have h1:decide ((bb fx s).e=0)=false:=by simp[he]
  rw[h1,Bool.not_false,cond_true,if_neg he]
  rfl
theorem Ty (hs:s.length≤200000):(ev E).call 17 [LV.str s] μ=some (.ret (.ltup [LV.cv (CV.sl (aw (bX false s))),LV.int .i64 ((bb false s).n:Int),LV.int .i64 (bb false s).e]) μ):=by
 refine aJ ?_
 rw[U1,TJ hs]
 unfold bX
 by_cases he:(bb false s).e=0
 ·rw[if_pos he,if_pos he];rfl
 ·rw[if_neg he,if_neg he];rfl
def eZ (s:List UInt8):Option Tok:=if(bb false s).e=0∧(bb false s).n=1 then(bb false s).toks[0]? else none
def S0:Option Tok→List LV
 |some t=>[.cv t.cv,LV.bool true]
 |none=>[.cv PV.cv,LV.bool false]
theorem TG (hs:s.length≤200000):(ev E).call 46 [LV.str s] μ=some (.ret (.ltup (S0 (eZ s))) μ):=by
 refine aJ ?_
 rw[Vd,Hw hs]
 simp only[ac,aq,aa,ak,am,ah,ae,aj,ay,cond_true,cond_false,Bool.not_true,Bool.not_false,au,ar,ao,fi]
 unfold eZ
 by_cases he:(bb false s).e=0
 ·have h1:decide ((bb false s).e=0)=true:=by simp[he]
  rw[h1,Bool.not_true,cond_false]
  by_cases hn:(bb false s).n=1
  ·have h2:decide (((bb false s).n:Int)=1)=true:=by simp[hn]
   obtain⟨_,hl,hC⟩:=kQ he
   rw[h2,Bool.not_true,cond_false,if_pos ⟨he,hn⟩]
   obtain⟨t,ht⟩: ∃t,(bb false s).toks=[t]:=by
    rw[hn]at hl
    exact List.length_eq_one_iff.1 hl.symm
   have hG:Ph (ev E) (CV.view (mn false s)) 0 0 [] μ=some (uQ true t.kind t.type t.text μ):=by
    refine aT ?_
    rw[QX,qk,aa,Bool.not_false,ay,r9,aa,hC,ht]
    simp only[ac,aq,aa,ak,am,ah,ae,aj,ay,cond_true,cond_false,Bool.not_true,Bool.not_false,au,ar,ao,vE,r6]
    have:bY (aw [t]) (0:Int)=some t.cv:=rfl
    rw[this,aa,bx]
   rw[hG,aa,H2,ht]
   rfl
  ·have h2:decide (((bb false s).n:Int)=1)=false:=by simp;omega
   rw[h2,Bool.not_false,cond_true,if_neg (by simp[hn])]
   rfl
 ·have h1:decide ((bb false s).e=0)=false:=by simp[he]
  rw[h1,Bool.not_false,cond_true,if_neg (by simp[he])]
  rfl
end
end Go.Abs
set_option linter.unusedVariables false
set_option linter.unusedSimpArgs false
namespace Go.Abs
open Go
def Jn (a:Nat)(c:UInt8):Nat:=a*10+(c.toNat-48)
def valD (acc:Nat)(l:List UInt8):Nat:=l.foldl Jn acc
theorem ip (acc:Nat):valD acc []=acc:=rfl
theorem MX (c:UInt8)(r:List UInt8)(acc:Nat):valD acc (c::r)=valD (Jn acc c) r:=by unfold valD;rw[List.foldl_cons]
theorem du (c:UInt8)(r:List UInt8)(acc:Nat):valD acc (c::r)=valD (acc*10+(c.toNat-48)) r:=by rw[MX];unfold Jn;exact Eq.refl _
theorem cm {c:UInt8}:av c=true↔48≤c.toNat∧c.toNat≤57:=by
 unfold av
 rw[Bool.and_eq_true,decide_eq_true_eq,decide_eq_true_eq]
theorem CN (c:UInt8)(l:List UInt8): ∀(acc:Nat),valD acc (l++[c])=valD acc l*10+(c.toNat-48):=by
 induction l with
 |nil=>intro acc;rw[List.nil_append,du,ip,ip]
 |cons d r ih=>intro acc;rw[List.cons_append,du,du,ih]
theorem dL: ∀(l:List UInt8) (acc:Nat),(∀b∈l,av b=true)→acc*10^l.length≤valD acc l∧valD acc l<(acc+1)*10^l.length
 |[],acc,_=>by rw[ip,List.length_nil,Nat.pow_zero];omega
 |c::r,acc,h=>by
  have hc:=cm.1 (h c List.mem_cons_self)
  obtain⟨h1,h2⟩:=dL r (acc*10+(c.toNat-48)) (fun b hb=>h b (List.mem_cons_of_mem _ hb))
  rw[du];simp only[List.length_cons,Nat.pow_succ]
  have e1:acc*(10^r.length*10)=(acc*10)*10^r.length:=by rw[Nat.mul_comm (10^r.length) 10,Nat.mul_assoc]
  have e2:(acc+1)*(10^r.length*10)=((acc+1)*10)*10^r.length:=by rw[Nat.mul_comm (10^r.length) 10,Nat.mul_assoc]
  rw[e1,e2]
  refine⟨Nat.le_trans (Nat.mul_le_mul_right _ (by omega)) h1,Nat.lt_of_lt_of_le h2 (Nat.mul_le_mul_right _ (by omega))⟩
theorem ph: ∀(l:List UInt8) (acc:Nat),valD acc l=acc*10^l.length+valD 0 l
 |[],acc=>by simp[ip]
 |c::r,acc=>by
  rw[du];simp only[List.length_cons,Nat.pow_succ]
  rw[du c r 0,ph r (acc*10+(c.toNat-48)),ph r (0*10+(c.toNat-48)),Nat.add_mul,Nat.zero_mul,Nat.zero_add,Nat.add_assoc]
  congr 1
  rw[Nat.mul_comm (10^r.length) 10,Nat.mul_assoc]
theorem sE: ∀(l:List UInt8) (acc:Nat),(∀b∈l,av b=true)→(acc+1)*10^l.length≤10000000000→Lib.parseUint10 acc l= .ok (valD acc l)
 |[],acc,_,_=>rfl
 |c::r,acc,h,hb=>by
  have hc:=cm.1 (h c List.mem_cons_self)
  have hp:1≤10^r.length:=Nat.pow_pos (by omega)
  have e2:(acc+1)*10^(c::r).length=((acc+1)*10)*10^r.length:=by simp only[List.length_cons,Nat.pow_succ];rw[Nat.mul_comm (10^r.length) 10,Nat.mul_assoc]
  rw[e2]at hb
  have h3:(acc+1)*10≤10000000000:=Nat.le_trans (Nat.le_mul_of_pos_right _ hp) hb
  simp only[Lib.parseUint10,du]
  rw[if_pos hc,if_neg (by omega),if_neg (by omega)]
  exact sE r _ (fun b hb=>h b (List.mem_cons_of_mem _ hb)) (Nat.le_trans (Nat.mul_le_mul_right _ (by omega)) hb)
theorem dJ {l:List UInt8}(h: ∀b∈l,av b=true)(h1:l≠[])(h2:l.length≤10):Lib.atoiAll l= .ok (valD 0 l:Nat):=by
 cases l with
 |nil=>exact absurd rfl h1
 |cons c r=>
  have hc:=cm.1 (h c List.mem_cons_self)
  have hb:(0+1)*10^(c::r).length≤10000000000:=by
   have:10^(c::r).length≤10^10:=Nat.pow_le_pow_right (by omega) h2
   omega
  have hp:=sE (c::r) 0 h hb
  have hlt:=(dL (c::r) 0 h).2
  rw[Lib.atoiAll_plain c r (by omega) (by omega)]
  unfold Lib.parseMag
  rw[if_neg (by simp),hp]
  simp only[Lib.signless]
  rw[if_neg (by omega)]
theorem p5 {l:List UInt8}(h: ∀b∈l,av b=true)(h1:l≠[])(h2:l.length≤10):Lib.atoiAll (45::l)= .ok (-(valD 0 l:Nat):Int):=by
 have hb:(0+1)*10^l.length≤10000000000:=by
  have:10^l.length≤10^10:=Nat.pow_le_pow_right (by omega) h2
  omega
 have hp:=sE l 0 h hb
 have hlt:=(dL l 0 h).2
 rw[Lib.atoiAll_minus]
 unfold Lib.parseMag
 rw[if_neg h1,hp]
 simp only[Lib.signed]
 rw[if_neg (by omega)]
def bM:List UInt8→List UInt8
 |[]=>[]
 |[c]=>[c]
 |c::d::r=>if c=48 then bM (d::r)else c::d::r
theorem sW: ∀(l:List UInt8),valD 0 (bM l)=valD 0 l
 |[]=>rfl
 |[c]=>rfl
 |c::d::r=>by
  unfold bM
  split
  ·rename_i hc
   rw[sW (d::r)]
   subst hc
   rfl
  ·rfl
theorem lS: ∀(l:List UInt8),∀b∈bM l,b∈l
 |[],b,hb=>hb
 |[c],b,hb=>hb
 |c::d::r,b,hb=>by
  unfold bM at hb
  split at hb
  ·exact List.mem_cons_of_mem _ (lS (d::r) b hb)
  ·exact hb
theorem nV: ∀(l:List UInt8),(bM l).length≤l.length
 |[]=>Nat.le_refl _
 |[c]=>Nat.le_refl _
 |c::d::r=>by
  unfold bM
  split
  ·have:=nV (d::r)
   simp only[List.length_cons]at this ⊢
   omega
  ·exact Nat.le_refl _
def gO (l:List UInt8):Prop:=l.length=1∨ ∃c r,l=c::r∧c≠48
theorem my: ∀(l:List UInt8),l≠[]→gO (bM l)
 |[],h=>absurd rfl h
 |[c],_=>Or.inl rfl
 |c::d::r,_=>by
  unfold bM
  split
  ·exact my (d::r) (by simp)
  ·rename_i hc
   exact Or.inr ⟨c,_,rfl,hc⟩
theorem CO {c:UInt8}{r:List UInt8}(h: ∀b∈c::r,av b=true)(hc:c≠48):1≤valD 0 (c::r):=by
 have h1:=cm.1 (h c List.mem_cons_self)
 have h2:=(dL r (0*10+(c.toNat-48)) (fun b hb=>h b (List.mem_cons_of_mem _ hb))).1
 have hp:1≤10^r.length:=Nat.pow_pos (by omega)
 have h3:c.toNat≠48:=fun e=>hc (UInt8.toNat.inj (by rw[e];rfl))
 have h4:1≤(0*10+(c.toNat-48))*10^r.length:=Nat.one_le_iff_ne_zero.2 (Nat.mul_ne_zero (by omega) (by omega))
 simp only[du,ip]
 omega
theorem yb {u d:Nat}(hu:1≤u)(hd:d≤9):Lib.decDigits (u*10+d)=Lib.decDigits u++[UInt8.ofNat (48+d)]:=by
 rw[Lib.decDigits,dif_neg (by omega)]
 have e1:(u*10+d) / 10=u:=by omega
 have e2:(u*10+d) % 10=d:=by omega
 rw[e1,e2]
theorem zh {c:UInt8}(h:av c=true):UInt8.ofNat (48+(c.toNat-48))=c:=by
 have h1:=cm.1 h
 have:48+(c.toNat-48)=c.toNat:=by omega
 rw[this];simp
theorem yc: ∀(n:Nat) (l:List UInt8),l.length=n→(∀b∈l,av b=true)→gO l→Lib.decDigits (valD 0 l)=l:=by
 intro n
 induction n with
 |zero=>
  intro l hn _ hl
  rcases hl with h|⟨c,r,rfl,_⟩
  ·omega
  ·simp at hn
 |succ n ih=>
  intro l hn hd hl
  have hne:l≠[]:=by intro h;subst h;simp at hn
  have hsp:=List.dropLast_concat_getLast hne
  have hc:av (l.getLast hne)=true:=hd _ (List.getLast_mem hne)
  have hc':=cm.1 hc
  by_cases h0:l.dropLast=[]
  ·rw[h0,List.nil_append]at hsp
   rw[←hsp]
   simp only[du,ip]
   rw[Lib.decDigits_one (by omega),Nat.zero_mul,Nat.zero_add,zh hc]
  ·rcases hl with h|⟨c,r,e,hne2⟩
   ·exfalso
    apply h0
    apply List.eq_nil_of_length_eq_zero
    rw[List.length_dropLast]
    omega
   ·have hdl: ∀b∈l.dropLast,av b=true:=fun b hb=>hd b (List.dropLast_subset _ hb)
    have hll: ∃r',l.dropLast=c::r':=by
     rw[e]at h0 ⊢
     cases r with
     |nil=>simp at h0
     |cons d r=>exact⟨_,rfl⟩
    obtain⟨r',hr'⟩:=hll
    have hp:1≤valD 0 l.dropLast:=by rw[hr']at hdl ⊢; exact CO hdl hne2
    have:=ih l.dropLast (by rw[List.length_dropLast];omega) hdl (Or.inr ⟨c,r',hr',hne2⟩)
    rw[←hsp,CN,yb hp (by omega),this,zh hc]
theorem NK {l:List UInt8}(h: ∀b∈l,av b=true)(h1:l≠[]):Lib.itoa (valD 0 l:Nat)=bM l:=by
 unfold Lib.itoa
 rw[if_neg (by omega)]
 have e:((valD 0 l:Nat):Int).toNat=valD 0 (bM l):=by rw[sW];omega
 rw[e]
 exact yc _ _ rfl (fun b hb=>h b (lS l b hb)) (my l h1)
end Go.Abs
set_option linter.unusedVariables false
set_option linter.unusedSimpArgs false
set_option maxRecDepth 100000
namespace Go.Abs
open Go Go.Proofs
section
variable {s:List UInt8}{n:Nat}
theorem ci:atC false s n=(s[n]?).getD 0:=rfl
theorem cI:atE false s n=if n<s.length then n+1 else n:=rfl
theorem sL {p:UInt8→Bool}(hp:p 0=false): ∀(l:List UInt8),eY false p l 0=(l.takeWhile p,(l.takeWhile p).length)
 |[]=>rfl
 |c::r=>by
  have ih:=sL hp r
  unfold eY
  rw[ih]
  by_cases h0:c=0
  ·subst h0
   simp[hp]
  ·have h1:(c != 0)=true:=by simp[h0]
   cases hc:p c
   ·simp[hc]
   ·simp[hc,h1];omega
theorem da {p:UInt8→Bool}(hp:p 0=false):cw false p s n=(s.drop n).takeWhile p:=by unfold cw;rw[sL hp]
theorem db {p:UInt8→Bool}(hp:p 0=false):runE false p s n=n+((s.drop n).takeWhile p).length:=by unfold runE;rw[sL hp]
theorem jY:aV 0=false:=by decide
theorem c8:av 0=false:=by decide
theorem m8:aY 0=false:=by decide
def bv (s:List UInt8)(n:Nat)(w:List UInt8):Bool:=decide (n+w.length≤s.length)&&decide (((s.drop n).take w.length).map upB=w)
def digR (s:List UInt8)(n:Nat):Nat:=((s.drop n).takeWhile av).length
theorem kC:cw false av s n=(s.drop n).take (digR s n)∧runE false av s n=n+digR s n:=by
 rw[da c8,db c8]
 refine⟨?_,rfl⟩
 unfold digR
 exact(List.prefix_iff_eq_take.1 (List.takeWhile_prefix _))
def Lv (w:List UInt8):Prop:= ∃v,w=46::v++[46]∧ ∀b∈v,65≤b.toNat∧b.toNat≤90
theorem Gu: ∀i:Fin 256,(upB (UInt8.ofNat i.val)=46→i.val=46)∧(65≤(upB (UInt8.ofNat i.val)).toNat∧(upB (UInt8.ofNat i.val)).toNat≤90→aV (UInt8.ofNat i.val)=true):=by decide
theorem Gt {c:UInt8}(h:upB c=46):c=46:=by
 have:=(Gu ⟨c.toNat,c.toNat_lt⟩).1 (by simpa using h)
 exact UInt8.toNat.inj this
theorem Ry {c:UInt8}(h:65≤(upB c).toNat∧(upB c).toNat≤90):aV c=true:=by
 have:=(Gu ⟨c.toNat,c.toNat_lt⟩).2 (by simpa using h)
 simpa using this
theorem eE {p:UInt8→Bool}: ∀(l:List UInt8),∀c∈l.takeWhile p,p c=true
 |[],c,h=>by simp at h
 |d::r,c,h=>by
  rw[List.takeWhile_cons]at h
  split at h
  ·rename_i hd
   rcases List.mem_cons.1 h with rfl|h
   ·exact hd
   ·exact eE r c h
  ·simp at h
theorem iL {p:UInt8→Bool}{d:UInt8}(hd:p d=false): ∀(v r:List UInt8),(∀b∈v,p b=true)→(v++d::r).takeWhile p=v
 |[],r,_=>by simp[hd]
 |c::v,r,h=>by
  have hc:=h c List.mem_cons_self
  rw[List.cons_append,List.takeWhile_cons,hc]
  simp only[if_true]
  rw[iL hd v r (fun b hb=>h b (List.mem_cons_of_mem _ hb))]
theorem za {v w:List UInt8}: ∀{l:List UInt8},l.map upB=v++w→ ∃a b,l=a++b∧a.map upB=v∧b.map upB=w:=by
 intro l h
 obtain⟨a,b,e,h1,h2⟩:=List.map_eq_append_iff.1 h
 exact⟨a,b,e,h1,h2⟩
theorem fh {w:List UInt8}(hw:Lv w)(h:bv s n w=true):atC false s n=46∧cP false s n=w∧atC false s (runE false aV s (atE false s n))=46∧dotEnd false s n=n+w.length:=by
 obtain⟨v,rfl,hv⟩:=hw
 simp only[bv,Bool.and_eq_true,decide_eq_true_eq]at h
 obtain⟨hlen,hm⟩:=h
 rw[List.cons_append]at hm hlen
 simp only[List.length_cons,List.length_append,List.length_nil]at hlen hm
 obtain⟨a,b,he,ha,hb⟩:=za (v:=[46]) (w:=v++[46]) hm
 obtain⟨b1,b2,he2,hb1,hb2⟩:=za hb
 obtain⟨x,rfl⟩: ∃x,a=[x]:=by
  cases a with
  |nil=>simp at ha
  |cons x t=>cases t with
   |nil=>exact⟨x,rfl⟩
   |cons y t=>simp at ha
 obtain⟨y,rfl⟩: ∃y,b2=[y]:=by
  cases b2 with
  |nil=>simp at hb2
  |cons x t=>cases t with
   |nil=>exact⟨x,rfl⟩
   |cons y t=>simp at hb2
 have hx:x=46:=Gt (by simpa using ha)
 have hy:y=46:=Gt (by simpa using hb2)
 subst hx hy
 have hb1l:b1.length=v.length:=by rw[←hb1,List.length_map]
 have hlet: ∀c∈b1,aV c=true:=by
  intro c hc
  exact Ry (hv _ (by rw[←hb1];exact List.mem_map_of_mem hc))
 have hd:s.drop n=46::(b1++46::(s.drop (n+v.length+2))):=by
  have h1:=List.take_append_drop (v.length+(0+1)+1) (s.drop n)
  rw[he,he2,List.drop_drop]at h1
  rw[←h1]
  simp only[List.cons_append,List.nil_append,List.append_assoc]
  congr 4
 have hn:n<s.length:=by omega
 have h0:s[n]? =some 46:=by
  have:(s.drop n)[0]? =some 46:=by rw[hd];rfl
  rw[List.getElem?_drop]at this
  simpa using this
 have hd1:s.drop (n+1)=b1++46::(s.drop (n+v.length+2)):=by
  have:(s.drop n).drop 1=b1++46::(s.drop (n+v.length+2)):=by rw[hd];rfl
  rw[List.drop_drop]at this
  exact this
 have hr:(s.drop (n+1)).takeWhile aV=b1:=by rw[hd1];exact iL (by decide) _ _ hlet
 have hE:atE false s n=n+1:=by rw[cI,if_pos hn]
 have hR:runE false aV s (n+1)=n+1+v.length:=by rw[db jY,hr,hb1l]
 have h46:s[n+1+v.length]? =some 46:=by
  have:(s.drop (n+1))[b1.length]? =some 46:=by rw[hd1,List.getElem?_append_right (Nat.le_refl _),Nat.sub_self];rfl
  rw[List.getElem?_drop,hb1l]at this
  exact this
 refine⟨by rw[ci,h0];rfl,?_,?_,?_⟩
 ·unfold cP
  rw[hE,da jY,hr]
  have:up b1=v:=by
   unfold up
   rw[kZ b1 (fun b hb=>ld (hlet b hb)),hb1]
  rw[this];rfl
 ·rw[hE,hR,ci,h46];rfl
 ·unfold dotEnd
  rw[hE,hR,cI,if_pos (by omega)]
  simp only[List.length_append,List.length_cons,List.length_nil]
  omega
theorem zG {w:List UInt8}(h0:atC false s n=46)(h1:cP false s n=w)(h2:atC false s (runE false aV s (atE false s n))=46):bv s n w=true:=by
 have hn:n<s.length:=by
  rcases Nat.lt_or_ge n s.length with h|h
  ·exact h
  ·rw[ci,List.getElem?_eq_none h]at h0;simp at h0
 have hE:atE false s n=n+1:=by rw[cI,if_pos hn]
 rw[hE,db jY,ci]at h2
 have hg:s[n]? =some 46:=by
  rw[ci,List.getElem?_eq_getElem hn]at h0
  rw[List.getElem?_eq_getElem hn]
  simpa using h0
 have hd:s.drop n=46::s.drop (n+1):=by
  rw[List.drop_eq_getElem_cons hn]
  rw[List.getElem?_eq_getElem hn]at hg
  injection hg with hg
  rw[hg]
 obtain⟨v,hv⟩: ∃v,v=(s.drop (n+1)).takeWhile aV:=⟨_,rfl⟩
 rw[←hv]at h2
 have hm:n+1+v.length<s.length:=by
  rcases Nat.lt_or_ge (n+1+v.length) s.length with h|h
  ·exact h
  ·rw[List.getElem?_eq_none h]at h2;simp at h2
 have hg2:s[n+1+v.length]=46:=by
  rw[List.getElem?_eq_getElem hm]at h2
  simpa using h2
 have hp:s.drop (n+1)=v++s.drop (n+1+v.length):=by
  have h3:v <+: s.drop (n+1):=by rw[hv];exact List.takeWhile_prefix _
  have h4:=List.prefix_iff_eq_append.1 h3
  rw[List.drop_drop]at h4
  exact h4.symm
 have hd2:s.drop (n+1+v.length)=46::s.drop (n+1+v.length+1):=by rw[List.drop_eq_getElem_cons hm,hg2]
 have hlet: ∀c∈v,aV c=true:=by
  intro c hc
  rw[hv]at hc
  exact eE _ c hc
 have hT:cP false s n=[46]++v.map upB++[46]:=by
  unfold cP
  rw[hE,da jY,←hv]
  unfold up
  rw[kZ v (fun b hb=>ld (hlet b hb))]
 have hwl:w.length=v.length+2:=by rw[←h1,hT];simp
 simp only[bv,Bool.and_eq_true,decide_eq_true_eq]
 refine⟨by omega,?_⟩
 rw[hwl,hd,hp,hd2]
 have e:(46::(v++46::s.drop (n+1+v.length+1)))=(46::v++[46])++s.drop (n+1+v.length+1):=by simp
 rw[e,List.take_left' (by simp),←h1,hT]
 simp[upB]
end
end Go.Abs
set_option linter.unusedVariables false
set_option linter.unusedSimpArgs false
set_option maxRecDepth 100000
namespace Go.Abs
open Go Go.Proofs
section
variable {μ:Mu}
theorem cL {n m:Nat}(h:n<m):decide ((n:Int)<(m:Int))=true:=by simp;omega
theorem cW {n m:Nat}(h:m≤n):decide ((n:Int)<(m:Int))=false:=by simp;omega
theorem UW {n m:Nat}(h:n≤m):decide ((n:Int)≤(m:Int))=true:=by simp;omega
theorem UV {n m:Nat}(h:m<n):decide ((n:Int)≤(m:Int))=false:=by simp;omega
theorem co {s:List UInt8}{n:Nat}(h:n<s.length):bn s (n:Int)=some s[n]:=by rw[jG,List.getElem?_eq_getElem h]
theorem bU {n:Nat}(h:n≤1000000000):IntKind.wrap .i64 ((n:Int)+1)=((n+1:Nat):Int):=by rw[cu (by omega) (by omega)];omega
theorem gM {n m:Nat}(h:n+m≤1000000000):IntKind.wrap .i64 ((n:Int)+(m:Int))=((n+m:Nat):Int):=by rw[cu (by omega) (by omega)];omega
theorem VQ {n m:Nat}(h:n≤1000000000)(h2:m≤n):IntKind.wrap .i64 ((n:Int) -(m:Int))=((n-m:Nat):Int):=by rw[cu (by omega) (by omega)];omega
theorem tP {n:Nat}(h:n≤1000000000)(h2:1≤n):IntKind.wrap .i64 ((n:Int) -1)=((n-1:Nat):Int):=by rw[cu (by omega) (by omega)];omega
theorem Nz {s:List UInt8}{n:Nat}(h:n<s.length):dk s (n:Int) ((n+1:Nat):Int)=some [s[n]]:=by
 rw[eT (by omega) (by omega),List.drop_eq_getElem_cons h]
 have:n+1-n=1:=by omega
 rw[this]
 rfl
theorem Ac {c:UInt8}:(ev E).call 67 [LV.int .u8 (c.toNat:Int)] μ=some (.ret (LV.bool (av c)) μ):=by
 refine aJ ?_
 rw[Vq]
 have e1:decide ((48:Int)≤(c.toNat:Int))=decide (48≤c.toNat):=dI 48 _
 have e2:decide ((c.toNat:Int)≤57)=decide (c.toNat≤57):=dI _ 57
 rw[e1,e2]
 unfold av
 cases decide (48≤c.toNat)<;>rfl
theorem PR {c:UInt8}:(ev E).call 96 [LV.int .u8 (c.toNat:Int)] μ=some (.ret (LV.bool (aV c)) μ):=by
 refine aJ ?_
 rw[VH]
 have e1:decide ((97:Int)≤(c.toNat:Int))=decide (97≤c.toNat):=dI 97 _
 have e2:decide ((c.toNat:Int)≤122)=decide (c.toNat≤122):=dI _ 122
 have e3:decide ((65:Int)≤(c.toNat:Int))=decide (65≤c.toNat):=dI 65 _
 have e4:decide ((c.toNat:Int)≤90)=decide (c.toNat≤90):=dI _ 90
 rw[e1,e2,e3,e4]
 unfold aV
 cases decide (97≤c.toNat)<;>cases decide (c.toNat≤122)<;>cases decide (65≤c.toNat)<;>cases decide (c.toNat≤90)<;>rfl
theorem wV {a b c:Int}:(ev E).call 23 [LV.int .i64 a,LV.int .i64 b,LV.int .i64 c] μ=some (.ret (LV.bool (decide (b≤a)&&decide (a≤c))) μ):=by
 refine aJ ?_
 rw[U5]
 by_cases h:a<b
 ·have h1:decide (a<b)=true:=by simp[h]
  have h2:decide (b≤a)=false:=by simp;omega
  rw[h1,h2];rfl
 ·have h1:decide (a<b)=false:=by simp;omega
  have h2:decide (b≤a)=true:=by simp;omega
  have h3:(!decide (c<a))=decide (a≤c):=by
   by_cases h4:c<a
   ·have: ¬a≤c:=by omega
    simp[h4,this]
   ·have:a≤c:=by omega
    simp[h4,this]
  rw[h1,h2,h3];rfl
theorem SK: ∀(k:Nat) (p l:List UInt8),l.length=k→p.length+k≤1000000→
  tl (ev E) (p.length+k) (p.length:Int) (aW (p++l)) μ=some (pV (p.length+k) (aW (p++l.map upB)) μ):=by
 intro k
 induction k with
 |zero=>
  intro p l hl hp
  have:l=[]:=List.eq_nil_of_length_eq_zero hl
  subst this
  refine ba ?_
  rw[Gc,cW (by omega),cond_false]
  rfl
 |succ k ih=>
  intro p l hl hp
  cases l with
  |nil=>simp at hl
  |cons c r=>
   simp only[List.length_cons]at hl
   refine ba ?_
   have hr:ex (p.length:Int) (p.length+(k+1))=true:=by simp[ex];omega
   have ho:bB E.P 5 (Ob.arr 1 (aW (p++c::r))) (0+((p.length:Int)).toNat*1)=some (LV.int .u8 (c.toNat:Int)):=by
    have e1:0+((p.length:Int)).toNat*1=p.length:=by omega
    rw[e1]
    have e2:bB E.P 5 (Ob.arr 1 (aW (p++c::r))) p.length=opt ((aW (p++c::r))[p.length]?) fun c=>some (.cv c):=by kernel_rfl
    have e3:(aW (p++c::r))[p.length]? =some (CV.int .u8 (c.toNat:Int)):=by
     unfold aW
     rw[List.getElem?_map,List.getElem?_append_right (Nat.le_refl _),Nat.sub_self]
     rfl
    rw[e2,e3]
    rfl
   have hn:tl (ev E) (p.length+(k+1)) (IntKind.wrap .i64 ((p.length:Int)+1)) (aW (p++upB c::r)) μ=some (pV (p.length+(k+1)) (aW (p++(c::r).map upB)) μ):=by
    have:=ih (p++[upB c]) r (by omega) (by simp;omega)
    have e1:(p++[upB c]).length+k=p.length+(k+1):=by simp;omega
    have e2:(((p++[upB c]).length:Nat):Int)=((p.length+1:Nat):Int):=by simp
    rw[e1,e2]at this
    rw[bU (by omega)]
    have e3:p++[upB c]++r=p++upB c::r:=by simp
    have e4:p++[upB c]++r.map upB=p++(c::r).map upB:=by simp
    rw[e3,e4]at this
    exact this
   rw[Gc,cL (by omega),cond_true,hr,ay,ho]
   simp only[ac,aq,aa,ak,am,ah,ae,aj,ay,cond_true,cond_false,Bool.not_true,Bool.not_false,au,ar,ao]
   have e1:decide ((97:Int)≤(c.toNat:Int))=decide (97≤c.toNat):=dI 97 _
   have e2:decide ((c.toNat:Int)≤122)=decide (c.toNat≤122):=dI _ 122
   rw[e1,e2]
   by_cases h1:97≤c.toNat
   ·by_cases h2:c.toNat≤122
    ·have hu:upB c=c-32:=by unfold upB;rw[if_pos ⟨h1,h2⟩]
     have hc:(c-32).toNat=c.toNat-32:=by
      rw[UInt8.toNat_sub_of_le]
      ·rfl
      ·rw[UInt8.le_iff_toNat_le];show 32≤c.toNat;omega
     have w1:IntKind.wrap .u8 ((c.toNat:Int) -97)=(c.toNat:Int) -97:=Jt (by omega) (by omega)
     have w2:IntKind.wrap .u8 ((c.toNat:Int) -97+65)=((upB c).toNat:Int):=by rw[Jt (by omega) (by omega),hu,hc];omega
     have hs:cU (aW (p++c::r)) (0+((p.length:Int)).toNat*1) (CV.cells (CV.int .u8 ((upB c).toNat:Int)))=aW (p++upB c::r):=by
      have e1:0+((p.length:Int)).toNat*1=p.length:=by omega
      rw[e1]
      show ((aW (p++c::r)).set p.length (CV.int .u8 ((upB c).toNat:Int)))=_
      unfold aW
      rw[List.map_append,List.map_append,List.set_append,if_neg (by simp)]
      simp
     have hg:(fq 1 (CV.int .u8 ((upB c).toNat:Int))&&Nat.ble (0+((p.length:Int)).toNat*1+1) (aW (p++c::r)).length)=true:=by
      have e1:0+((p.length:Int)).toNat*1+1=p.length+1:=by omega
      rw[e1,fE]
      have:fq 1 (CV.int .u8 ((upB c).toNat:Int))=true:=rfl
      rw[this,Bool.true_and]
      simp
     simp only[h1,h2,decide_true,ac,aq,aa,ak,am,ah,ae,aj,ay,cond_true,cond_false,Bool.not_true,Bool.not_false,au,ar,ao,hr]
     rw[w1,w2,hg,ay,hs,hn]
    ·have hu:upB c=c:=by unfold upB;rw[if_neg (by omega)]
     rw[hu]at hn
     simp only[h1,h2,decide_true,decide_false,ac,aq,aa,ak,am,ah,ae,aj,ay,cond_true,cond_false,Bool.not_true,Bool.not_false,au,ar,ao,hr]
     rw[hn]
   ·have hu:upB c=c:=by unfold upB;rw[if_neg (by omega)]
    rw[hu]at hn
    simp only[h1,decide_false,ac,aq,aa,ak,am,ah,ae,aj,ay,cond_true,cond_false,Bool.not_true,Bool.not_false,au,ar,ao]
    rw[hn]
theorem PS {s:List UInt8}(hs:s.length≤1000000):(ev E).call 97 [LV.str s] μ=some (.ret (LV.str (s.map upB)) μ):=by
 refine aJ ?_
 have:=SK (μ:=μ) s.length [] s rfl (by simpa using hs)
 simp only[List.length_nil,Nat.zero_add,List.nil_append]at this
 have e0:((0:Nat):Int)=0:=rfl
 rw[e0]at this
 rw[VI,bq (by omega),ay,this,aa,I3]
 have h1:(List.take s.length (List.drop 0 (aW (s.map upB))))=aW (s.map upB):=by
  rw[List.drop_zero,List.take_of_length_le]
  rw[fE,List.length_map];exact Nat.le_refl _
 have h2:Nat.ble (0+s.length) (aW (s.map upB)).length=true:=by rw[fE,List.length_map];simp
 rw[h1,h2,ay,cS,aa]
theorem qm {s w:List UInt8}{n:Nat}(hs:s.length≤200000)(hn:n≤s.length)(hw:w.length≤200000):(ev E).call 99 [LV.str s,LV.int .i64 (n:Int),LV.str w] μ=some (.ret (LV.bool (bv s n w)) μ):=by
 refine aJ ?_
 rw[VK,gM (by omega)]
 unfold bv
 by_cases h:n+w.length≤s.length
 ·rw[UW h,cond_true,eT (by omega) h,aa]
  have e:n+w.length-n=w.length:=by omega
  rw[e,PS (by simp;omega)]
  simp only[ac,aq,aa,ak,am,ah,ae,aj,ay,cond_true,cond_false,Bool.not_true,Bool.not_false,au,ar,ao]
  simp[h]
 ·rw[UV (by omega),cond_false]
  simp[h]
theorem SB {s:List UInt8}(hs:s.length≤200000){n:Nat}(hn:n≤s.length): ∀(k m:Nat),n+m+k=s.length→GN (ev E) s (n:Int) (m:Int) μ=some (pT ((m+digR s (n+m):Nat):Int) μ):=by
 intro k
 induction k with
 |zero=>
  intro m hm
  refine ba ?_
  rw[F2,gM (by omega),cW (by omega),cond_false]
  have:s.drop (n+m)=[]:=List.drop_eq_nil_of_le (by omega)
  simp[digR,this]
 |succ k ih=>
  intro m hm
  refine ba ?_
  have hlt:n+m<s.length:=by omega
  rw[F2,gM (by omega),cL (by omega),cond_true,co hlt,aa,Ac]
  simp only[ac,aq,aa,ak,am,ah,ae,aj,ay,cond_true,cond_false,Bool.not_true,Bool.not_false,au,ar,ao]
  have hd:s.drop (n+m)=s[n+m]::s.drop (n+m+1):=List.drop_eq_getElem_cons hlt
  cases hc:av s[n+m]with
  |true=>
   rw[cond_true,bU (by omega),ih (m+1) (by omega)]
   unfold digR
   rw[hd,List.takeWhile_cons,hc]
   simp only[if_true,List.length_cons]
   have:n+(m+1)=n+m+1:=by omega
   rw[this]
   congr 3
   omega
  |false=>
   rw[cond_false]
   unfold digR
   rw[hd,List.takeWhile_cons,hc]
   simp
theorem Ab {s:List UInt8}(hs:s.length≤200000){n:Nat}(hn:n≤s.length):(ev E).call 47 [LV.str s,LV.int .i64 (n:Int)] μ=some (.ret (LV.int .i64 (digR s n:Nat)) μ):=by
 refine aJ ?_
 have:=SB (μ:=μ) hs hn (s.length-n) 0 (by omega)
 have e0:((0:Nat):Int)=0:=rfl
 rw[e0,Nat.zero_add,Nat.add_zero]at this
 rw[Ve,this,aa,IM]
theorem oM {s:List UInt8}{n:Nat}(hn:n≤s.length):n+digR s n≤s.length:=by
 unfold digR
 have:=(List.takeWhile_sublist av (l:=s.drop n)).length_le
 rw[List.length_drop]at this
 omega
theorem PO {t:List UInt8}:(ev E).call 70 [LV.str t] μ=some (.ret (LV.str (bi t)) μ):=by
 refine aJ ?_
 rw[Vs]
 unfold bi
 by_cases h:t=[]<;>simp[h]
theorem LR: ∀(s:List UInt8),s.length≤1000000→GO (ev E) s μ=some (pU (bM s) μ)
 |[],_=>ba (by rw[yr];rfl)
 |[c],_=>ba (by rw[yr];rfl)
 |c::d::r,h=>by
  have e48: ∀c:UInt8,decide ((c.toNat:Int)=48)=decide (c=48):=fun c=>cq (k:=48) (by omega)
  simp only[List.length_cons]at h
  refine ba ?_
  have h1:decide ((1:Int)<((c::d::r).length:Int))=true:=by simp;omega
  have h2:bn (c::d::r) (0:Int)=some c:=rfl
  have h3:=qc (l:=c::d::r) (a:=1) (by simp)
  have e1:((1:Nat):Int)=1:=rfl
  rw[e1]at h3
  rw[yr,h1,cond_true,h2,aa,e48,h3,aa]
  unfold bM
  by_cases hc:c=48
  ·have:decide (c=48)=true:=by simp[hc]
   rw[this,cond_true,if_pos hc]
   exact LR (d::r) (by simp;omega)
  ·have:decide (c=48)=false:=by simp[hc]
   rw[this,cond_false,if_neg hc]
theorem PN {s:List UInt8}(hs:s.length≤1000000):(ev E).call 69 [LV.str s] μ=some (.ret (LV.str (bM s)) μ):=by
 refine aJ ?_
 rw[Vr,LR s hs,aa,IS]
def fZ (s:List UInt8):List UInt8:=(bM s.reverse).reverse
theorem QC: ∀(k:Nat) (s:List UInt8),s.length=k→s.length≤1000000→AF (ev E) s μ=some (nC (fZ s) μ):=by
 have e48: ∀c:UInt8,decide ((c.toNat:Int)=48)=decide (c=48):=fun c=>cq (k:=48) (by omega)
 intro k
 induction k with
 |zero=>
  intro s hk h
  have:s=[]:=List.eq_nil_of_length_eq_zero hk
  subst this
  exact ba (by rw[vN];rfl)
 |succ k ih=>
  intro s hk h
  refine ba ?_
  have hne:s≠[]:=by intro e;subst e;simp at hk
  have hsp:=List.dropLast_concat_getLast hne
  have hrev:s.reverse=s.getLast hne::s.dropLast.reverse:=by
   conv=>lhs;rw[←hsp]
   simp
  by_cases h1:1<s.length
  ·have e1:decide ((1:Int)<(s.length:Int))=true:=by simp;omega
   have hdl:s.dropLast.length=s.length-1:=List.length_dropLast
   obtain⟨d,r,hr⟩: ∃d r,s.dropLast.reverse=d::r:=by
    cases hx:s.dropLast.reverse with
    |nil=>
     have:s.dropLast.length=0:=by rw[←List.length_reverse,hx];rfl
     omega
    |cons d r=>exact⟨d,r,rfl⟩
   have hl:bn s ((s.length-1:Nat):Int)=some (s.getLast hne):=by rw[co (by omega),List.getLast_eq_getElem]
   have hcut:dk s (0:Int) ((s.length-1:Nat):Int)=some s.dropLast:=by
    have:=eT (l:=s) (a:=0) (e:=s.length-1) (by omega) (by omega)
    have e0:((0:Nat):Int)=0:=rfl
    rw[e0]at this
    rw[this,List.drop_zero,Nat.sub_zero,List.dropLast_eq_take]
   rw[vN,e1,cond_true,tP (by omega) (by omega),hl,aa,e48,hcut,aa]
   by_cases hc:s.getLast hne=48
   ·have:decide (s.getLast hne=48)=true:=by simp[hc]
    rw[this,cond_true,ih s.dropLast (by omega) (by omega)]
    unfold fZ
    rw[hrev,hr,bM,if_pos hc]
   ·have:decide (s.getLast hne=48)=false:=by simp[hc]
    rw[this,cond_false]
    unfold fZ
    rw[hrev,hr,bM,if_neg hc,←hr,←hrev,List.reverse_reverse]
  ·have e1:decide ((1:Int)<(s.length:Int))=false:=by simp;omega
   rw[vN,e1,cond_false]
   have hd:s.dropLast=[]:=List.eq_nil_of_length_eq_zero (by rw[List.length_dropLast];omega)
   unfold fZ
   rw[hrev,hd]
   rw[hd,List.nil_append]at hsp
   rw[List.reverse_nil,bM,List.reverse_singleton,hsp]
theorem R5 {s:List UInt8}(hs:s.length≤1000000):(ev E).call 134 [LV.str s] μ=some (.ret (LV.str (fZ s)) μ):=by
 refine aJ ?_
 rw[T8,QC _ s rfl hs,aa,DW]
def countR (s:List UInt8):Nat:=if s=[48]then 0 else s.length
theorem LB {s:List UInt8}:(ev E).call 135 [LV.str s] μ=some (.ret (LV.int .i64 (countR s:Nat)) μ):=by
 refine aJ ?_
 rw[T9]
 unfold countR
 by_cases h:s=[48]
 ·simp[h]
 ·simp[h]
theorem QB {s:List UInt8}(hs:s.length≤9)(hd: ∀b∈s,av b=true): ∀(k m acc:Nat),m+k=s.length→(acc+1)*10^k≤1000000000→AE (ev E) s (acc:Int) (m:Int) μ=some (rG (valD acc (s.drop m):Nat) μ):=by
 intro k
 induction k with
 |zero=>
  intro m acc hm ha
  refine ba ?_
  rw[BQ,cW (by omega),cond_false,List.drop_eq_nil_of_le (by omega)]
  rfl
 |succ k ih=>
  intro m acc hm ha
  have hp:1≤10^k:=Nat.pow_pos (by omega)
  have e2:(acc+1)*10^(k+1)=((acc+1)*10)*10^k:=by rw[Nat.pow_succ,Nat.mul_comm (10^k) 10,Nat.mul_assoc]
  rw[e2]at ha
  have h3:(acc+1)*10≤1000000000:=Nat.le_trans (Nat.le_mul_of_pos_right _ hp) ha
  have hlt:m<s.length:=by omega
  have hc:=cm.1 (hd s[m] (List.getElem_mem hlt))
  refine ba ?_
  have w1:IntKind.wrap .u8 ((s[m].toNat:Int) -48)=((s[m].toNat-48:Nat):Int):=by rw[Jt (by omega) (by omega)];omega
  have w2:IntKind.wrap .i64 ((s[m].toNat-48:Nat):Int)=((s[m].toNat-48:Nat):Int):=cu (by omega) (by omega)
  have w3:IntKind.wrap .i64 (10*(acc:Int))=((10*acc:Nat):Int):=by rw[cu (by omega) (by omega)];omega
  have w4:IntKind.wrap .i64 (((10*acc:Nat):Int)+((s[m].toNat-48:Nat):Int))=((acc*10+(s[m].toNat-48):Nat):Int):=by rw[cu (by omega) (by omega)];omega
  rw[BQ,cL hlt,cond_true,co hlt,aa,w1,w2,w3,w4,bU (by omega),ih (m+1) _ (by omega) (Nat.le_trans (Nat.mul_le_mul_right _ (by omega)) ha),List.drop_eq_getElem_cons hlt,du]
theorem R0 {s:List UInt8}(hs:s.length≤9)(hd: ∀b∈s,av b=true):(ev E).call 120 [LV.str s] μ=some (.ret (LV.int .i64 (valD 0 s:Nat)) μ):=by
 refine aJ ?_
 have hp:(0+1)*10^s.length≤1000000000:=by
  have:10^s.length≤10^9:=Nat.pow_le_pow_right (by omega) hs
  omega
 have:=QB (μ:=μ) hs hd s.length 0 0 (by omega) hp
 have e0:((0:Nat):Int)=0:=rfl
 rw[e0,List.drop_zero]at this
 rw[T5,this,aa,DV]
theorem P1 (n:Nat):Int.tdiv (n:Int) 10=((n / 10:Nat):Int):=by exact rfl
theorem P3 (n:Nat):Int.tmod (n:Int) 10=((n % 10:Nat):Int):=by exact rfl
theorem g8 {n:Nat}:Lib.itoa (n:Int)=Lib.decDigits n:=by
 unfold Lib.itoa
 rw[if_neg (by omega)]
 rfl
theorem vH {n:Nat}(h:1≤n):Lib.itoa (-(n:Int))=45::Lib.decDigits n:=by
 unfold Lib.itoa
 rw[if_pos (by omega)]
 congr 2
 omega
theorem Qo: ∀d:Fin 10,dk ([48,49,50,51,52,53,54,55,56,57]:List UInt8) (d.val:Int) ((d.val+1:Nat):Int)=some [UInt8.ofNat (48+d.val)]:=by decide
theorem oL {n:Nat}(h:n<18446744073709551616):(Lib.decDigits n).length≤20:=by rw[Lib.decDigits_length];exact Lib.nDigits_le20 n h
theorem BE: ∀(n:Nat),n≤1000000000→(ev E).call 71 [LV.int .i64 (n:Int)] μ=some (.ret (LV.str (Lib.decDigits n)) μ):=by
 intro n
 induction n using Nat.strongRecOn with
 |_ n ih=>
  intro hn
  refine aJ ?_
  have h0:decide ((n:Int)<0)=false:=by simp
  rw[SS,h0,cond_false]
  have hG:Pn (ev E) (n:Int) μ=some (pI (Lib.decDigits n) μ):=by
   refine aT ?_
   rw[Q2]
   by_cases h9:9<n
   ·have e9:decide ((9:Int)<(n:Int))=true:=by simp;omega
    have w1:IntKind.wrap .i64 (Int.tdiv (n:Int) 10)=((n / 10:Nat):Int):=by
     have:Int.tdiv (n:Int) 10=((n / 10:Nat):Int):=P1 n
     rw[this,cu (by omega) (by omega)]
    have w2:Int.tmod (n:Int) 10=((n % 10:Nat):Int):=P3 n
    have hd1:(Lib.decDigits (n / 10)).length≤20:=oL (by omega)
    have hd2:(Lib.decDigits (n % 10)).length≤20:=oL (by omega)
    rw[e9,cond_true,w1,ih (n / 10) (by omega) (by omega)]
    simp only[ac,aq,aa,ak,am,ah,ae,aj,ay,cond_true,cond_false,Bool.not_true,Bool.not_false,au,ar,ao]
    rw[w2,ih (n % 10) (by omega) (by omega)]
    simp only[ac,aq,aa,ak,am,ah,ae,aj,ay,cond_true,cond_false,Bool.not_true,Bool.not_false,au,ar,ao]
    rw[bq (by omega),ay]
    have:Lib.decDigits (n % 10)=[UInt8.ofNat (48+n % 10)]:=Lib.decDigits_one (by omega)
    rw[this]
    have e:=yb (u:=n / 10) (d:=n % 10) (by omega) (by omega)
    have e2:n / 10*10+n % 10=n:=by omega
    rw[e2]at e
    rw[e]
   ·have e9:decide ((9:Int)<(n:Int))=false:=by simp;omega
    rw[e9,cond_false,bU (by omega)]
    have:=Qo ⟨n,by omega⟩
    simp only at this
    rw[this,aa,Lib.decDigits_one (by omega)]
  rw[hG,aa,Ie]
theorem Sm: ∀(n:Nat),1≤n→n≤1000000000→(ev E).call 71 [LV.int .i64 (-(n:Int))] μ=some (.ret (LV.str (45::Lib.decDigits n)) μ):=by
 intro n
 induction n using Nat.strongRecOn with
 |_ n ih=>
  intro h1 hn
  refine aJ ?_
  have h0:decide (-(n:Int)<0)=true:=by simp;omega
  rw[SS,h0,cond_true]
  by_cases h9:9<n
  ·have e9:decide ((-10:Int)< -(n:Int))=false:=by simp;omega
   rw[e9,cond_false]
   have hG:Pm (ev E) (-(n:Int)) μ=some (uT (45::Lib.decDigits n) μ):=by
    refine aT ?_
    have w1:IntKind.wrap .i64 (Int.tdiv (-(n:Int)) 10)= -((n / 10:Nat):Int):=by
     have:Int.tdiv (-(n:Int)) 10= -((n / 10:Nat):Int):=by rw[Int.neg_tdiv,P1]
     rw[this,cu (by omega) (by omega)]
    have w2:IntKind.wrap .i64 (0-Int.tmod (-(n:Int)) 10)=((n % 10:Nat):Int):=by
     have:Int.tmod (-(n:Int)) 10= -((n % 10:Nat):Int):=by rw[Int.neg_tmod,P3]
     rw[this,cu (by omega) (by omega)]
     omega
    have hd1:(Lib.decDigits (n / 10)).length≤20:=oL (by omega)
    have hd2:(Lib.decDigits (n % 10)).length≤20:=oL (by omega)
    rw[Q1,w1,ih (n / 10) (by omega) (by omega) (by omega)]
    simp only[ac,aq,aa,ak,am,ah,ae,aj,ay,cond_true,cond_false,Bool.not_true,Bool.not_false,au,ar,ao]
    rw[w2,BE (n % 10) (by omega)]
    simp only[ac,aq,aa,ak,am,ah,ae,aj,ay,cond_true,cond_false,Bool.not_true,Bool.not_false,au,ar,ao]
    rw[bq (by simp;omega),ay]
    have:Lib.decDigits (n % 10)=[UInt8.ofNat (48+n % 10)]:=Lib.decDigits_one (by omega)
    rw[this]
    have e:=yb (u:=n / 10) (d:=n % 10) (by omega) (by omega)
    have e2:n / 10*10+n % 10=n:=by omega
    rw[e2]at e
    rw[e]
    rfl
   rw[hG,aa,Id]
  ·have e9:decide ((-10:Int)< -(n:Int))=true:=by simp;omega
   have w1:IntKind.wrap .i64 (0- -(n:Int))=(n:Int):=by rw[cu (by omega) (by omega)];omega
   have hd2:(Lib.decDigits n).length≤20:=oL (by omega)
   rw[e9,cond_true,w1,BE n (by omega)]
   simp only[ac,aq,aa,ak,am,ah,ae,aj,ay,cond_true,cond_false,Bool.not_true,Bool.not_false,au,ar,ao]
   rw[bq (by simp;omega),ay]
   rfl
theorem TK {n:Int}(h0: -1000000000≤n)(h1:n≤1000000000):(ev E).call 71 [LV.int .i64 n] μ=some (.ret (LV.str (Lib.itoa n)) μ):=by
 by_cases h:0≤n
 ·obtain⟨m,rfl⟩: ∃m:Nat,n=(m:Int):=⟨n.toNat,by omega⟩
  rw[g8]
  exact BE m (by omega)
 ·obtain⟨m,rfl⟩: ∃m:Nat,n= -(m:Int):=⟨(-n).toNat,by omega⟩
  rw[vH (by omega)]
  exact Sm m (by omega) (by omega)
theorem SA {s:List UInt8}(hs:s.length≤200000): ∀(k m:Nat) (acc:List UInt8),m+k=s.length→acc.length≤1+2*m→zU (ev E) s acc (m:Int) μ=some (vh (acc++dbl (s.drop m)) μ):=by
 have e39: ∀c:UInt8,decide ((c.toNat:Int)=39)=decide (c=39):=fun c=>cq (k:=39) (by omega)
 intro k
 induction k with
 |zero=>
  intro m acc hm ha
  refine ba ?_
  rw[F1,cW (by omega),cond_false,List.drop_eq_nil_of_le (by omega)]
  simp[dbl]
 |succ k ih=>
  intro m acc hm ha
  have hlt:m<s.length:=by omega
  refine ba ?_
  rw[F1,cL hlt,cond_true,bU (by omega),Nz hlt,aa,bq (by simp;omega),ay,co hlt,aa,e39,List.drop_eq_getElem_cons hlt,dbl]
  by_cases hc:s[m]=39
  ·have:decide (s[m]=39)=true:=by simp[hc]
   rw[this,cond_true,bq (by simp;omega),ay,ih (m+1) _ (by omega) (by simp;omega),if_pos hc,hc]
   simp
  ·have:decide (s[m]=39)=false:=by simp[hc]
   rw[this,cond_false,ih (m+1) _ (by omega) (by simp;omega),if_neg hc]
   simp
theorem TF {s:List UInt8}(hs:s.length≤200000):(ev E).call 42 [LV.str s] μ=some (.ret (LV.str (bh s)) μ):=by
 refine aJ ?_
 have:=SA (μ:=μ) hs s.length 0 [39] (by omega) (by simp)
 have e0:((0:Nat):Int)=0:=rfl
 have hd:=mD s
 rw[e0,List.drop_zero]at this
 rw[Vc,this,aa,IL,bq (by simp;omega),ay]
 rfl
theorem TE {s:List UInt8}{m:Int}(hs:s.length≤200000):(ev E).call 41 [LV.str s,LV.int .i64 m] μ=some (.ret (LV.bool (!decide (m<(s.length:Int))&&df s)) μ):=by
 have hl: ∀(k n:Nat),n+k=s.length→GM (ev E) s (n:Int) μ=some (if df (s.drop n)then vg μ else vf false μ):=by
  intro k
  induction k with
  |zero=>
   intro n hn
   refine ba ?_
   rw[F0,cW (by omega),cond_false,List.drop_eq_nil_of_le (by omega)]
   rfl
  |succ k ih=>
   intro n hn
   have hlt:n<s.length:=by omega
   refine ba ?_
   have w:IntKind.wrap .i64 (s[n].toNat:Int)=(s[n].toNat:Int):=by have:=s[n].toNat_lt;rw[cu (by omega) (by omega)]
   rw[F0,cL hlt,cond_true,co hlt,aa,w,wV]
   simp only[ac,aq,aa,ak,am,ah,ae,aj,ay,cond_true,cond_false,Bool.not_true,Bool.not_false,au,ar,ao]
   rw[bU (by omega),ih (n+1) (by omega),List.drop_eq_getElem_cons hlt]
   have e1:decide ((32:Int)≤(s[n].toNat:Int))=decide (32≤s[n].toNat):=dI 32 _
   have e2:decide ((s[n].toNat:Int)≤126)=decide (s[n].toNat≤126):=dI _ 126
   rw[e1,e2]
   have hT:df (s[n]::s.drop (n+1))=((decide (32≤s[n].toNat)&&decide (s[n].toNat≤126))&&df (s.drop (n+1))):=by
    unfold df
    rw[List.any_cons]
    by_cases h1:32≤s[n].toNat
    ·by_cases h2:s[n].toNat≤126
     ·have h3: ¬s[n].toNat<32:=by omega
      have h4: ¬126<s[n].toNat:=by omega
      simp[h1,h2,h3,h4]
     ·have h4:126<s[n].toNat:=by omega
      simp[h2,h4]
    ·have h3:s[n].toNat<32:=by omega
     simp[h1,h3]
   rw[hT]
   cases decide (32≤s[n].toNat)&&decide (s[n].toNat≤126)<;>rfl
 refine aJ ?_
 rw[Vb]
 by_cases hm:m<(s.length:Int)
 ·have:decide (m<(s.length:Int))=true:=by simp[hm]
  rw[this];rfl
 ·have:decide (m<(s.length:Int))=false:=by simp[hm]
  have h0:=hl s.length 0 (by omega)
  have e0:((0:Nat):Int)=0:=rfl
  rw[e0,List.drop_zero]at h0
  have hG:Pg (ev E) s μ=some (pG (df s) μ):=by
   refine aT ?_
   rw[QW,h0,aa]
   cases df s with
   |true=>exact IK _ _
   |false=>exact IJ _ _ _
  rw[this,cond_false,hG,aa,H1]
  rfl
theorem PG {s:List UInt8}(hs:s.length≤200000):(ev E).call 48 [LV.str s] μ=some (.ret (LV.int .i64 (bp s)) μ):=by
 refine aJ ?_
 rw[Vf,TE hs]
 simp only[ac,aq,aa,ak,am,ah,ae,aj,ay,cond_true,cond_false,Bool.not_true,Bool.not_false,au,ar,ao]
 unfold bp
 by_cases h:1320<s.length
 ·have:decide ((1320:Int)<(s.length:Int))=true:=by simp;omega
  rw[this,if_pos h]
  rfl
 ·have:decide ((1320:Int)<(s.length:Int))=false:=by simp;omega
  rw[this,if_neg h]
  cases df s<;>rfl
theorem xD (x y:Tok):(decide (x.kind=y.kind)&&(decide (x.type=y.type)&&(decide (x.text=y.text)&&true)))=decide (x=y):=by
 cases x;cases y
 simp[Bool.decide_and]
theorem Ss {a b:List Tok}(hl:a.length=b.length)(h:a.length≤1000000): ∀(k n:Nat),n+k=a.length→GI (ev E) (aw a) (aw b) (n:Int) μ=some (if a.drop n=b.drop n then u4 μ else u3 false μ):=by
 intro k
 induction k with
 |zero=>
  intro n hn
  refine ba ?_
  have e:(aw a).length=a.length:=by simp[aw]
  rw[FT,e,cW (by omega),cond_false,List.drop_eq_nil_of_le (by omega),List.drop_eq_nil_of_le (by omega),if_pos rfl]
 |succ k ih=>
  intro n hn
  have h1:n<a.length:=by omega
  have h2:n<b.length:=by omega
  refine ba ?_
  have e:(aw a).length=a.length:=by simp[aw]
  have ga:bY (aw a) (n:Int)=some a[n].cv:=by rw[e7];simp[aw,h1]
  have gb:bY (aw b) (n:Int)=some b[n].cv:=by rw[e7];simp[aw,h2]
  rw[FT,e,cL h1,cond_true,ga,aa,bx,gb,aa,bx,bU (by omega),ih (n+1) (by omega),List.drop_eq_getElem_cons h1,List.drop_eq_getElem_cons h2]
  rw[xD]
  generalize a[n]=x,b[n]=y
  by_cases hab:x=y
  ·subst hab
   simp
  ·have:decide (x=y)=false:=by simp[hab]
   rw[this,Bool.not_false,cond_true,if_neg]
   intro h
   injection h with h
   exact hab h
theorem PD {a b:List Tok}(h:a.length≤1000000):(ev E).call 19 [LV.cv (CV.sl (aw a)),LV.cv (CV.sl (aw b))] μ=some (.ret (LV.bool (decide (a=b))) μ):=by
 refine aJ ?_
 have ea:(aw a).length=a.length:=by simp[aw]
 have eb:(aw b).length=b.length:=by simp[aw]
 rw[U3,ea,eb]
 by_cases hl:a.length=b.length
 ·have e1:decide ((a.length:Int)=(b.length:Int))=true:=by simp[hl]
  have:=Ss (μ:=μ) hl h a.length 0 (by omega)
  have e0:((0:Nat):Int)=0:=rfl
  rw[e0,List.drop_zero,List.drop_zero]at this
  have hG:Pc (ev E) (aw a) (aw b) μ=some (pD (decide (a=b)) μ):=by
   refine aT ?_
   rw[QQ,this,aa]
   by_cases hab:a=b
   ·rw[if_pos hab,Iy];simp[hab]
   ·rw[if_neg hab,Ix];simp[hab]
  rw[e1,Bool.not_true,cond_false,hG,aa,HS]
 ·have e1:decide ((a.length:Int)=(b.length:Int))=false:=by simp;omega
  have e2:decide (a=b)=false:=by simp;intro e;subst e;exact hl rfl
  rw[e1,e2];rfl
end
end Go.Abs
set_option linter.unusedVariables false
set_option linter.unusedSimpArgs false
set_option maxRecDepth 100000
namespace Go.Abs
open Go Go.Proofs
def stN (μ:Mu)(X:Int→Int→List UInt8→Int→Int→Mu→St):Except Int (Tok×Nat)→St
 | .ok q=>X q.1.kind q.1.type q.1.text (q.2:Int) 0 μ
 | .error e=>X 0 0 [] 0 e μ
def lO:Except Int (Tok×Nat)→CV
 | .ok q=> .agg [CV.int .i64 q.1.kind,CV.int .i64 q.1.type,CV.str q.1.text,CV.int .i64 (q.2:Int),CV.int .i64 0]
 | .error e=> .agg [CV.int .i64 0,CV.int .i64 0,CV.str [],CV.int .i64 0,CV.int .i64 e]
def before (whole:List UInt8):List UInt8:=bM (bi whole)
def after (part:List UInt8):List UInt8:=fZ (bi part)
def dS (whole part:List UInt8)(kind exp:Int)(e:Nat):Except Int (Tok×Nat):=
 if 30<countR (before whole)+countR (after part)then .error 7
 else if kind=2 then .ok (⟨1,kind,before whole++[46]++after part++[68]++Lib.itoa exp⟩,e)
 else if exp≠0 then .ok (⟨1,kind,before whole++[46]++after part++[69]++Lib.itoa exp⟩,e)
 else .ok (⟨1,kind,before whole++[46]++after part⟩,e)
def cM:List UInt8:=[50,49,52,55,52,56,51,54,52,55]
def lY (whole:List UInt8)(e:Nat):Except Int (Tok×Nat):=
 if 10<whole.length then .error 28
 else if(bM whole).length=10∧(Op.bytesLess (bM whole) cM||decide (bM whole=cM))=false then .error 28
 else .ok (⟨1,0,bM whole⟩,e)
def dO (s:List UInt8)(e:Nat):Int:=if atC false s (e+1)=45 then -((valD 0 (aR false s e):Nat):Int)else((valD 0 (aR false s e):Nat):Int)
def gF (s whole part:List UInt8)(point:Bool)(e:Nat):Except Int (Tok×Nat):=
 if(aP false s e).2.2.2 then(if 3<(aR false s e).length then .error 7 else dS whole part (if(aP false s e).1=68 then 2 else 1) (dO s e) (aP false s e).2.2.1)
 else if point then dS whole part 1 0 e else lY whole e
def cj:List (List UInt8):=bK++[fe,en]
def lp (s:List UInt8)(n:Nat):Bool:=decide (0<digR s n)&&cj.any (bv s (n+digR s n))
def gG (s:List UInt8)(n:Nat):Except Int (Tok×Nat):=
 if !lp s n&&decide (s[n+digR s n]? =some 46)then
  gF s ((s.drop n).take (digR s n)) ((s.drop (n+digR s n+1)).take (digR s (n+digR s n+1))) true (n+digR s n+1+digR s (n+digR s n+1))
 else gF s ((s.drop n).take (digR s n)) [] false (n+digR s n)
section
variable {μ:Mu}{s:List UInt8}
theorem Jq (l:List UInt8):(fZ l).length≤l.length:=by
 unfold fZ
 have:=nV l.reverse
 simpa using this
theorem Hq {x:Int}(h0: -1000000000≤x)(h1:x≤1000000000):(Lib.itoa x).length≤21:=Lib.itoa_length_le x (by omega) (by omega)
theorem OZ {e:Nat}{kind exp a b c d:Int}{t be af:List UInt8}(hb:be.length≤300000)(ha:af.length≤300000)(h0: -1000000000≤exp)(h1:exp≤1000000000):
  JJ (ev E) (e:Int) kind exp be af a b t c d μ=some (lB 1 kind (if kind=2 then be++[46]++af++[68]++Lib.itoa exp else if exp≠0 then be++[46]++af++[69]++Lib.itoa exp else be++[46]++af) (e:Int) 0 μ):=by
 refine aT ?_
 have hi:=Hq h0 h1
 rw[Ow,bq (by simp;omega),ay,bq (by simp;omega),ay,TK h0 h1]
 simp only[ac,aq,aa,ak,am,ah,ae,aj,ay,cond_true,cond_false,Bool.not_true,Bool.not_false,au,ar,ao]
 by_cases hk:kind=2
 ·have:decide (kind=2)=true:=by simp[hk]
  rw[this,cond_true,bq (by simp;omega),ay,bq (by simp;omega),ay,if_pos hk]
 ·have:decide (kind=2)=false:=by simp[hk]
  rw[this,cond_false,if_neg hk]
  by_cases he:exp=0
  ·have:decide (exp=0)=true:=by simp[he]
   rw[this,Bool.not_true,cond_false,if_neg (by simp[he])]
  ·have:decide (exp=0)=false:=by simp[he]
   rw[this,Bool.not_false,cond_true,if_pos he,bq (by simp;omega),ay,bq (by simp;omega),ay]
theorem Cv {n w e:Nat}{kind exp a b c d:Int}{t part:List UInt8}(hs:s.length≤200000)(hw:n+w≤s.length)(hp:part.length≤200000)(h0: -1000000000≤exp)(h1:exp≤1000000000):
  AB (ev E) s (n:Int) (w:Int) (e:Int) kind exp part a b t c d μ=some (stN μ lA (dS ((s.drop n).take w) part kind exp e)):=by
 refine aT ?_
 have e1:n+w-n=w:=by omega
 have hl:((s.drop n).take w).length≤200000:=by simp;omega
 have k1:=iD ((s.drop n).take w)
 have k2:=iD part
 have k3:(before ((s.drop n).take w)).length≤200001:=by have:=nV (bi ((s.drop n).take w));unfold before;omega
 have k4:(after part).length≤200001:=by have:=Jq (bi part);unfold after;omega
 rw[Ov,gM (by omega),eT (by omega) hw,aa,e1,PO]
 simp only[ac,aq,aa,ak,am,ah,ae,aj,ay,cond_true,cond_false,Bool.not_true,Bool.not_false,au,ar,ao]
 rw[PN (by omega)]
 simp only[ac,aq,aa,ak,am,ah,ae,aj,ay,cond_true,cond_false,Bool.not_true,Bool.not_false,au,ar,ao]
 rw[PO]
 simp only[ac,aq,aa,ak,am,ah,ae,aj,ay,cond_true,cond_false,Bool.not_true,Bool.not_false,au,ar,ao]
 rw[R5 (by omega)]
 simp only[ac,aq,aa,ak,am,ah,ae,aj,ay,cond_true,cond_false,Bool.not_true,Bool.not_false,au,ar,ao]
 rw[LB]
 simp only[ac,aq,aa,ak,am,ah,ae,aj,ay,cond_true,cond_false,Bool.not_true,Bool.not_false,au,ar,ao]
 rw[LB]
 simp only[ac,aq,aa,ak,am,ah,ae,aj,ay,cond_true,cond_false,Bool.not_true,Bool.not_false,au,ar,ao]
 have hB:bM (bi ((s.drop n).take w))=before ((s.drop n).take w):=rfl
 have hA:fZ (bi part)=after part:=rfl
 have c1:countR (before ((s.drop n).take w))≤200001:=by unfold countR;split<;>omega
 have c2:countR (after part)≤200001:=by unfold countR;split<;>omega
 rw[hB,hA,gM (by omega),OZ (by omega) (by omega) h0 h1,aa,DS]
 unfold dS
 by_cases h30:30<countR (before ((s.drop n).take w))+countR (after part)
 ·have:decide ((30:Int)<((countR (before ((s.drop n).take w))+countR (after part):Nat):Int))=true:=by simp;omega
  rw[this,cond_true,if_pos h30]
  rfl
 ·have:decide ((30:Int)<((countR (before ((s.drop n).take w))+countR (after part):Nat):Int))=false:=by simp;omega
  rw[this,cond_false,if_neg h30]
  by_cases hk:kind=2
  ·rw[if_pos hk,if_pos hk];rfl
  ·rw[if_neg hk,if_neg hk]
   by_cases he:exp≠0
   ·rw[if_pos he,if_pos he];rfl
   ·rw[if_neg he,if_neg he];rfl
theorem OY {n w e:Nat}{a b c d:Int}{t:List UInt8}(hs:s.length≤200000)(hw:n+w≤s.length)(h10:w≤10):
  JI (ev E) s (n:Int) (w:Int) (e:Int) a b t c d μ=some (stN μ lz (lY ((s.drop n).take w) e)):=by
 refine aT ?_
 have e1:n+w-n=w:=by omega
 have hl:((s.drop n).take w).length=w:=by simp;omega
 rw[Ou,gM (by omega),eT (by omega) hw,aa,e1,PN (by omega)]
 simp only[ac,aq,aa,ak,am,ah,ae,aj,ay,cond_true,cond_false,Bool.not_true,Bool.not_false,au,ar,ao]
 unfold lY
 rw[if_neg (by omega)]
 have hm:([50,49,52,55,52,56,51,54,52,55]:List UInt8)=cM:=rfl
 rw[hm]
 by_cases hT:(bM ((s.drop n).take w)).length=10
 ·have:decide (((bM ((s.drop n).take w)).length:Int)=10)=true:=by simp;omega
  rw[this,cond_true]
  cases hB:(Op.bytesLess (bM ((s.drop n).take w)) cM||decide (bM ((s.drop n).take w)=cM))with
  |true=>rw[if_neg (by simp)];rfl
  |false=>rw[if_pos ⟨hT,rfl⟩];rfl
 ·have:decide (((bM ((s.drop n).take w)).length:Int)=10)=false:=by simp;omega
  rw[this,cond_false,if_neg (by simp[hT])]
  rfl
def nn (whole part:List UInt8)(point has:Bool)(kind exp:Int)(e:Nat):Except Int (Tok×Nat):=if point||has then dS whole part kind exp e else lY whole e
theorem OX {n w e p:Nat}{kind exp a b c d:Int}{t:List UInt8}{point has:Bool}(hs:s.length≤200000)(hw:n+w≤s.length)(hp:point=true→n+w+1+p≤s.length)(h0: -1000000000≤exp)(h1:exp≤1000000000):
  oB (ev E) s (n:Int) (w:Int) (e:Int) point (p:Int) kind exp has a b t c d μ=some (stN μ jr (nn ((s.drop n).take w) (if point then(s.drop (n+w+1)).take p else []) point has kind exp e)):=by
 refine aT ?_
 have h38:(opt (wj (ev E) s (n:Int) (w:Int) (e:Int) point (p:Int) kind exp a b t c d μ) (kS (ev E) H98 [] [(4,0)]))=some (stN μ jr (dS ((s.drop n).take w) (if point then(s.drop (n+w+1)).take p else []) kind exp e)):=by
  have:wj (ev E) s (n:Int) (w:Int) (e:Int) point (p:Int) kind exp a b t c d μ=some (stN μ nB (dS ((s.drop n).take w) (if point then(s.drop (n+w+1)).take p else []) kind exp e)):=by
   refine aT ?_
   have hfin: ∀q,kS (ev E) H98 [] [(4,0)] (stN μ lA q)=some (stN μ nB q):=by
    intro q
    cases q with
    |ok q=>exact un _ _ _ _ _ _ _
    |error e=>exact un _ _ _ _ _ _ _
   cases point with
   |true=>
    have hp':=hp rfl
    have e1:n+w+1+p-(n+w+1)=p:=by omega
    rw[BP,cond_true,gM (by omega),bU (by omega),gM (by omega),eT (by omega) hp',aa,e1,Cv hs hw (by simp;omega) h0 h1,aa,hfin]
    rfl
   |false=>
    rw[BP,cond_false,Cv hs hw (by simp) h0 h1,aa,hfin]
    rfl
  rw[this,aa]
  cases dS ((s.drop n).take w) (if point then(s.drop (n+w+1)).take p else []) kind exp e with
  |ok q=>exact um _ _ _ _ _ _ _
  |error e=>exact um _ _ _ _ _ _ _
 rw[Ot]
 unfold nn
 cases point with
 |true=>rw[Bool.not_true,cond_false,h38];rfl
 |false=>
  rw[Bool.not_false,cond_true]
  cases has with
  |true=>rw[Bool.not_true,cond_false,h38];rfl
  |false=>
   rw[Bool.not_false,cond_true]
   have hl:((s.drop n).take w).length=w:=by simp;omega
   by_cases h10:10<w
   ·have:decide ((10:Int)<(w:Int))=true:=by simp;omega
    rw[this,cond_true]
    simp only[Bool.or_self,Bool.false_eq_true,if_false,lY,hl,if_pos h10]
    rfl
   ·have:decide ((10:Int)<(w:Int))=false:=by simp;omega
    rw[this,cond_false,OY hs hw (by omega),aa]
    simp only[Bool.or_self,Bool.false_eq_true,if_false]
    cases lY ((s.drop n).take w) e with
    |ok q=>exact ul _ _ _ _ _ _ _
    |error e=>exact ul _ _ _ _ _ _ _
theorem yi: ∀i:Fin 256,((UInt8.ofNat i.val &&& 223=69)↔(UInt8.ofNat i.val=69∨UInt8.ofNat i.val=101))∧((UInt8.ofNat i.val &&& 223=68)↔(UInt8.ofNat i.val=68∨UInt8.ofNat i.val=100)):=by decide
theorem mg (c:UInt8):((c &&& 223=69)↔(c=69∨c=101))∧((c &&& 223=68)↔(c=68∨c=100)):=by
 have:=yi ⟨c.toNat,c.toNat_lt⟩
 simpa using this
theorem Gv {l:List UInt8}(h: ∀b∈l,av b=true)(hl:l.length≤9):valD 0 l<1000000000:=by
 have:=(dL l 0 h).2
 have h2:10^l.length≤10^9:=Nat.pow_le_pow_right (by omega) hl
 omega
theorem OW {n w e p k:Nat}{a b c d:Int}{t:List UInt8}{point:Bool}(hs:s.length≤200000)(hw:n+w≤s.length)(he:e<s.length)(hk:k≤s.length)(hk1:e+1≤k):
  di (ev E) s (n : Int) (w : Int) (e : Int) point (p : Int) 1 0 false (k : Int) a b t c d μ = some (
   if digR s k=0 then lx s (n:Int) (w:Int) (e:Int) point (p:Int) 1 0 false a b t c d μ
   else if 3<digR s k then rC 0 0 [] 0 7 μ
   else lx s (n:Int) (w:Int) ((k+digR s k:Nat):Int) point (p:Int) (if s[e]=68∨s[e]=100 then 2 else 1) (if s[k-1]? =some 45 then -((valD 0 ((s.drop k).take (digR s k)):Nat):Int)else((valD 0 ((s.drop k).take (digR s k)):Nat):Int)) true a b t c d μ):=by
 have e68: ∀c:UInt8,decide ((c.toNat:Int)=68)=decide (c=68):=fun c=>cq (k:=68) (by omega)
 have e100: ∀c:UInt8,decide ((c.toNat:Int)=100)=decide (c=100):=fun c=>cq (k:=100) (by omega)
 have e45: ∀c:UInt8,decide ((c.toNat:Int)=45)=decide (c=45):=fun c=>cq (k:=45) (by omega)
 have hm:=oM hk
 refine aT ?_
 rw[On,Ab hs hk]
 simp only[ac,aq,aa,ak,am,ah,ae,aj,ay,cond_true,cond_false,Bool.not_true,Bool.not_false,au,ar,ao]
 by_cases h0:digR s k=0
 ·have:decide ((0:Int)<((digR s k:Nat):Int))=false:=by simp;omega
  rw[this,cond_false,if_pos h0]
 ·have:decide ((0:Int)<((digR s k:Nat):Int))=true:=by simp;omega
  rw[this,cond_true,if_neg h0]
  by_cases h3:3<digR s k
  ·have:decide ((3:Int)<((digR s k:Nat):Int))=true:=by simp;omega
   rw[this,cond_true,if_pos h3]
  ·have:decide ((3:Int)<((digR s k:Nat):Int))=false:=by simp;omega
   rw[this,cond_false,if_neg h3]
   have hk2:k-1<s.length:=by omega
   have hdig: ∀b∈(s.drop k).take (digR s k),av b=true:=by
    intro b hb
    have:(s.drop k).take (digR s k)=(s.drop k).takeWhile av:=by
     unfold digR
     exact(List.prefix_iff_eq_take.1 (List.takeWhile_prefix _)).symm
    rw[this]at hb
    exact eE _ b hb
   have hlen:((s.drop k).take (digR s k)).length≤9:=by simp;omega
   have hv:=Gv hdig hlen
   have h28: ∀(x:Int),AA (ev E) s (n:Int) (w:Int) (e:Int) point (p:Int) 1 x true (k:Int) (digR s k:Nat) a b t c d μ=some (ly s (n:Int) (w:Int) ((k+digR s k:Nat):Int) point (p:Int) (if s[e]=68∨s[e]=100 then 2 else 1) x true a b t c d μ):=by
    intro x
    refine aT ?_
    rw[Oq,co he,aa,aa,e68,e100,gM (by omega)]
    by_cases h1:s[e]=68
    ·have:decide (s[e]=68)=true:=by simp[h1]
     rw[this,cond_true,if_pos (Or.inl h1)]
    ·have:decide (s[e]=68)=false:=by simp[h1]
     rw[this,cond_false]
     by_cases h2:s[e]=100
     ·have:decide (s[e]=100)=true:=by simp[h2]
      rw[this,cond_true,if_pos (Or.inr h2)]
     ·have:decide (s[e]=100)=false:=by simp[h2]
      rw[this,cond_false,if_neg (by simp[h1,h2])]
   have h24:JH (ev E) s (n:Int) (w:Int) (e:Int) point (p:Int) 1 (k:Int) (digR s k:Nat) a b t c d μ=some (rD s (n:Int) (w:Int) ((k+digR s k:Nat):Int) point (p:Int) (if s[e]=68∨s[e]=100 then 2 else 1) (if s[k-1]? =some 45 then -((valD 0 ((s.drop k).take (digR s k)):Nat):Int)else((valD 0 ((s.drop k).take (digR s k)):Nat):Int)) true a b t c d μ):=by
    refine aT ?_
    have e1:k+digR s k-k=digR s k:=by omega
    rw[Oo,gM (by omega),eT (by omega) hm,aa,e1,R0 hlen hdig]
    simp only[ac,aq,aa,ak,am,ah,ae,aj,ay,cond_true,cond_false,Bool.not_true,Bool.not_false,au,ar,ao]
    rw[tP (by omega) (by omega),co hk2,aa,e45,List.getElem?_eq_getElem hk2]
    by_cases h45:s[k-1]=45
    ·have:decide (s[k-1]=45)=true:=by simp[h45]
     have w1:IntKind.wrap .i64 (0-((valD 0 ((s.drop k).take (digR s k)):Nat):Int))= -((valD 0 ((s.drop k).take (digR s k)):Nat):Int):=by rw[cu (by omega) (by omega)];omega
     rw[this,cond_true,w1,h28,aa,uj,if_pos (show (some s[k-1]:Option UInt8)=some 45 by rw[h45])]
    ·have:decide (s[k-1]=45)=false:=by simp[h45]
     rw[this,cond_false,h28,aa,uj,if_neg (show ¬(some s[k-1]:Option UInt8)=some 45 by simp[h45])]
   rw[h24,aa,DR]
theorem Cu {n w e p:Nat}{a b c d:Int}{t:List UInt8}{word point:Bool}(hs:s.length≤200000)(hw:n+w≤s.length)(he:e≤s.length)(hp:point=true→n+w+1+p≤s.length)(hword:word=true→s[e]? =some 46):
  oA (ev E) s (n:Int) (w:Int) (e:Int) word point (p:Int) a b t c d μ=some (stN μ gc (gF s ((s.drop n).take w) (if point then(s.drop (n+w+1)).take p else []) point e)):=by
 have e69: ∀c:UInt8,decide ((c.toNat:Int)=69)=decide (c=69):=fun c=>cq (k:=69) (by omega)
 have e101: ∀c:UInt8,decide ((c.toNat:Int)=101)=decide (c=101):=fun c=>cq (k:=101) (by omega)
 have e68: ∀c:UInt8,decide ((c.toNat:Int)=68)=decide (c=68):=fun c=>cq (k:=68) (by omega)
 have e100: ∀c:UInt8,decide ((c.toNat:Int)=100)=decide (c=100):=fun c=>cq (k:=100) (by omega)
 have e43: ∀c:UInt8,decide ((c.toNat:Int)=43)=decide (c=43):=fun c=>cq (k:=43) (by omega)
 have e45: ∀c:UInt8,decide ((c.toNat:Int)=45)=decide (c=45):=fun c=>cq (k:=45) (by omega)
 obtain⟨whole,hwhole⟩: ∃x,x=(s.drop n).take w:=⟨_,rfl⟩
 obtain⟨part,hpart⟩: ∃x,x=(if point then(s.drop (n+w+1)).take p else []):=⟨_,rfl⟩
 have h31: ∀{kind exp:Int} {has:Bool} {e:Nat},-1000000000≤exp→exp≤1000000000→(opt (oB (ev E) s (n:Int) (w:Int) (e:Int) point (p:Int) kind exp has a b t c d μ) (kS (ev E) H98 [] [(4,0)]))=some (stN μ gc (nn whole part point has kind exp e)):=by
  intro kind exp has e h0 h1
  rw[OX hs hw hp h0 h1,aa,hwhole,hpart]
  cases nn ((s.drop n).take w) (if point then(s.drop (n+w+1)).take p else []) point has kind exp e with
  |ok q=>exact uk _ _ _ _ _ _ _
  |error e=>exact uk _ _ _ _ _ _ _
 have hno: ∀{kind exp:Int},nn whole part point false 1 0 e=if point then dS whole part 1 0 e else lY whole e:=by
  intro kind exp
  unfold nn
  rw[Bool.or_false]
 rw[←hwhole,←hpart]
 refine aT ?_
 rw[Om,h31 (by omega) (by omega),hno (kind:=0) (exp:=0)]
 unfold gF
 cases word with
 |true=>
  have hc:atC false s e=46:=by rw[ci,hword rfl];rfl
  have hx:(aP false s e).2.2.2=false:=by
   have:ce false s e=14:=by unfold ce;rw[hc];rfl
   unfold aP
   rw[this];rfl
  rw[Bool.not_true,cond_false,hx]
  rfl
 |false=>
  rw[Bool.not_false,cond_true]
  by_cases hlt:e<s.length
  ·have hg:s[e]? =some s[e]:=List.getElem?_eq_getElem hlt
   have hc:atC false s e=s[e]:=by rw[ci,hg];rfl
   have hE:atE false s e=e+1:=by rw[cI,if_pos hlt]
   rw[cL hlt,cond_true,co hlt]
   simp only[aa,e69,e101,e68,e100]
   by_cases hlet:s[e]=69∨s[e]=101∨s[e]=68∨s[e]=100
   ·
    have hL:ce false s e=69∨ce false s e=68:=by
     unfold ce
     rw[hc]
     have:=mg s[e]
     rcases hlet with h|h|h|h
     ·exact Or.inl (this.1.2 (Or.inl h))
     ·exact Or.inl (this.1.2 (Or.inr h))
     ·exact Or.inr (this.2.2 (Or.inl h))
     ·exact Or.inr (this.2.2 (Or.inr h))
    have hC2:atC false s (e+1)=(s[e+1]?).getD 0:=rfl
    have hst:expStart false s e≤s.length:=by
     unfold expStart
     rw[hE,cI]
     split<;>(try split)<;>omega
    have hst1:e+1≤expStart false s e:=by
     unfold expStart
     rw[hE,cI]
     split<;>(try split)<;>omega
    have hdg:aR false s e=(s.drop (expStart false s e)).take (digR s (expStart false s e)):=(kC).1
    have hend:runE false av s (expStart false s e)=expStart false s e+digR s (expStart false s e):=(kC).2
    have hok:(aP false s e)=(ce false s e,cp false s e++aR false s e,runE false av s (expStart false s e),!decide (aR false s e=[])):=by unfold aP;rw[if_pos hL]
    have hdl:(aR false s e).length=digR s (expStart false s e):=by
     rw[hdg]
     have:=oM hst
     simp;omega
    have h20:(opt (di (ev E) s (n:Int) (w:Int) (e:Int) point (p:Int) 1 0 false (expStart false s e:Nat) a b t c d μ) (kS (ev E) H98 [.seq (cA 98 [1,1,1,1,1,1,1,1,1,1])] [(4,0)]))=
      some (stN μ gc (if(aP false s e).2.2.2 then(if 3<(aR false s e).length then .error 7 else dS whole part (if(aP false s e).1=68 then 2 else 1) (dO s e) (aP false s e).2.2.1)else if point then dS whole part 1 0 e else lY whole e)):=by
     rw[OW hs hw hlt hst hst1,aa,hok,hdl,hend]
     simp only
     by_cases h0:digR s (expStart false s e)=0
     ·have:aR false s e=[]:=List.eq_nil_of_length_eq_zero (by omega)
      rw[if_pos h0,this,ui,h31 (by omega) (by omega),hno (kind:=0) (exp:=0)]
      rfl
     ·have:aR false s e≠[]:=by intro h;rw[h]at hdl;simp at hdl;omega
      have h1:(!decide (aR false s e=[]))=true:=by simp[this]
      rw[if_neg h0,h1,if_pos rfl]
      by_cases h3:3<digR s (expStart false s e)
      ·rw[if_pos h3,if_pos h3,DQ]
       rfl
      ·have hlen:(aR false s e).length≤9:=by omega
       have hdig: ∀b∈aR false s e,av b=true:=im
       have hv:=Gv hdig hlen
       rw[hdg]at hv
       have hsign:(if s[expStart false s e-1]? =some 45 then -((valD 0 ((s.drop (expStart false s e)).take (digR s (expStart false s e))):Nat):Int)else((valD 0 ((s.drop (expStart false s e)).take (digR s (expStart false s e))):Nat):Int))=dO s e:=by
        unfold dO
        rw[hdg]
        have hiff:s[expStart false s e-1]? =some 45↔atC false s (e+1)=45:=by
         have hstD:expStart false s e=if(s[e+1]?).getD 0=43∨(s[e+1]?).getD 0=45 then atE false s (e+1)else e+1:=by unfold expStart;rw[hE,hC2]
         rw[hC2,hstD]
         by_cases hsg:(s[e+1]?).getD 0=43∨(s[e+1]?).getD 0=45
         ·have h2:e+1<s.length:=by
           rcases Nat.lt_or_ge (e+1) s.length with h|h
           ·exact h
           ·rw[List.getElem?_eq_none h]at hsg
            rcases hsg with h|h<;>simp at h
          rw[if_pos hsg,cI,if_pos h2]
          have:e+1+1-1=e+1:=by omega
          rw[this,List.getElem?_eq_getElem h2]
          simp
         ·rw[if_neg hsg]
          have:e+1-1=e:=by omega
          rw[this,hg]
          constructor
          ·intro h
           injection h with h
           rw[h]at hlet
           exact absurd hlet (by decide)
          ·intro h
           exact absurd (Or.inr h) hsg
        by_cases h:s[expStart false s e-1]? =some 45
        ·rw[if_pos h,if_pos (hiff.1 h)]
        ·rw[if_neg h,if_neg (fun hh=>h (hiff.2 hh))]
       have hkind:(if s[e]=68∨s[e]=100 then(2:Int)else 1)=if ce false s e=68 then 2 else 1:=by
        have hL2:ce false s e=s[e] &&& 223:=by unfold ce;rw[hc]
        rw[hL2]
        have:=(mg s[e]).2
        by_cases h:s[e]=68∨s[e]=100
        ·rw[if_pos h,if_pos (this.2 h)]
        ·rw[if_neg h,if_neg (fun hh=>h (this.1 hh))]
       have hb: -1000000000≤dO s e∧dO s e≤1000000000:=by
        unfold dO
        rw[hdg]
        split<;>omega
       rw[if_neg h3,if_neg h3,hsign,hkind,ui,h31 hb.1 hb.2]
       unfold nn
       rw[Bool.or_true,if_pos rfl]
    have hA : cond (decide (IntKind.wrap .i64 ((e : Int) + 1) < (s.length : Int))) (
      opt (bn s (IntKind.wrap .i64 ((e:Int)+1))) fun y25=>
      cond (decide (y25 = 43)) (
      opt (di (ev E) s (n:Int) (w:Int) (e:Int) point (p:Int) 1 0 false (IntKind.wrap .i64 (IntKind.wrap .i64 ((e:Int)+1)+1)) a b t c d μ) (kS (ev E) H98 [.seq (cA 98 [1,1,1,1,1,1,1,1,1,1])] [(4,0)])) (
      opt (bn s (IntKind.wrap .i64 ((e:Int)+1))) fun y99=>
      cond (decide (y99 = 45)) (
      opt (di (ev E) s (n:Int) (w:Int) (e:Int) point (p:Int) 1 0 false (IntKind.wrap .i64 (IntKind.wrap .i64 ((e:Int)+1)+1)) a b t c d μ) (kS (ev E) H98 [.seq (cA 98 [1,1,1,1,1,1,1,1,1,1])] [(4,0)])) (
      opt (di (ev E) s (n:Int) (w:Int) (e:Int) point (p:Int) 1 0 false (IntKind.wrap .i64 ((e:Int)+1)) a b t c d μ) (kS (ev E) H98 [.seq (cA 98 [1,1,1,1,1,1,1,1,1,1])] [(4,0)])))) (
      opt (di (ev E) s (n:Int) (w:Int) (e:Int) point (p:Int) 1 0 false (IntKind.wrap .i64 ((e:Int)+1)) a b t c d μ) (kS (ev E) H98 [.seq (cA 98 [1,1,1,1,1,1,1,1,1,1])] [(4,0)]))=
      some (stN μ gc (if(aP false s e).2.2.2 then(if 3<(aR false s e).length then .error 7 else dS whole part (if(aP false s e).1=68 then 2 else 1) (dO s e) (aP false s e).2.2.1)else if point then dS whole part 1 0 e else lY whole e)):=by
     have hstD:expStart false s e=if(s[e+1]?).getD 0=43∨(s[e+1]?).getD 0=45 then atE false s (e+1)else e+1:=by unfold expStart;rw[hE,hC2]
     rw[bU (by omega),bU (by omega)]
     by_cases h2:e+1<s.length
     ·have hg2:(s[e+1]?).getD 0=s[e+1]:=by rw[List.getElem?_eq_getElem h2];rfl
      rw[hg2,cI,if_pos h2]at hstD
      rw[cL h2,cond_true,co h2]
      simp only[aa]
      by_cases h43:s[e+1]=43
      ·have:decide (s[e+1]=43)=true:=by simp[h43]
       rw[if_pos (Or.inl h43)]at hstD
       rw[hstD]at h20
       rw[this,cond_true,h20]
      ·have:decide (s[e+1]=43)=false:=by simp[h43]
       rw[this,cond_false]
       by_cases h45:s[e+1]=45
       ·have:decide (s[e+1]=45)=true:=by simp[h45]
        rw[if_pos (Or.inr h45)]at hstD
        rw[hstD]at h20
        rw[this,cond_true,h20]
       ·have:decide (s[e+1]=45)=false:=by simp[h45]
        rw[if_neg (by simp[h43,h45])]at hstD
        rw[hstD]at h20
        rw[this,cond_false,h20]
     ·have hg2:(s[e+1]?).getD 0=0:=by rw[List.getElem?_eq_none (by omega)];rfl
      rw[hg2,if_neg (by decide)]at hstD
      rw[hstD]at h20
      rw[cW (by omega),cond_false,h20]
    simp only[e43,e45]
    rw[hA]
    rcases hlet with h|h|h|h
    ·rw[h];rfl
    ·rw[h];rfl
    ·rw[h];rfl
    ·rw[h];rfl
   ·have hn1:s[e]≠69:=fun h=>hlet (Or.inl h)
    have hn2:s[e]≠101:=fun h=>hlet (Or.inr (Or.inl h))
    have hn3:s[e]≠68:=fun h=>hlet (Or.inr (Or.inr (Or.inl h)))
    have hn4:s[e]≠100:=fun h=>hlet (Or.inr (Or.inr (Or.inr h)))
    have d1:decide (s[e]=69)=false:=by simp[hn1]
    have d2:decide (s[e]=101)=false:=by simp[hn2]
    have d3:decide (s[e]=68)=false:=by simp[hn3]
    have d4:decide (s[e]=100)=false:=by simp[hn4]
    have hx:(aP false s e).2.2.2=false:=by
     have hL2:ce false s e=s[e] &&& 223:=by unfold ce;rw[hc]
     unfold aP
     rw[hL2,if_neg]
     intro h
     have:=mg s[e]
     rcases h with h|h
     ·rcases this.1.1 h with h|h
      ·exact hn1 h
      ·exact hn2 h
     ·rcases this.2.1 h with h|h
      ·exact hn3 h
      ·exact hn4 h
    rw[d1,d2,d3,d4,hx]
    rfl
  ·have hx:(aP false s e).2.2.2=false:=by
    have hc:atC false s e=0:=by rw[ci,List.getElem?_eq_none (by omega)];rfl
    have:ce false s e=0:=by unfold ce;rw[hc];rfl
    unfold aP
    rw[this];rfl
   rw[cW (by omega),cond_false,hx]
   rfl
theorem Hu:(ev E).call 55 [] μ=some (.ret (LV.osl (bw bK)) μ):=aJ (by rw[Vm];rfl)
theorem Js: ∀w∈cj,w.length≤200000:=by decide
theorem SL {n w i:Nat}{a b c d:Int}{t:List UInt8}(hs:s.length≤200000)(hi:i≤s.length): ∀(k j:Nat) (word:Bool),j+k=cj.length→
  wm (ev E) s (n:Int) (w:Int) (i:Int) word (bw cj) (cj.length:Int) (j:Int) a b t c d μ=some (vA s (n:Int) (w:Int) (i:Int) (word||(decide (0<w)&&(cj.drop j).any (bv s i))) a b t c d μ):=by
 intro k
 induction k with
 |zero=>
  intro j word hj
  refine ba ?_
  rw[Gd,cW (by omega),cond_false,List.drop_eq_nil_of_le (by omega)]
  simp
 |succ k ih=>
  intro j word hj
  have hlt:j<cj.length:=by omega
  have hj2:cj.length≤13:=by decide
  have hg:bY (bw cj) (j:Int)=some (CV.str cj[j]):=by rw[e7];simp[bw,hlt]
  refine ba ?_
  rw[Gd,cL hlt,cond_true,hg,aa,g7,aa,bU (by omega),List.drop_eq_getElem_cons hlt,List.any_cons]
  cases word with
  |true=>rw[cond_true,ih (j+1) true (by omega)];rfl
  |false=>
   rw[cond_false]
   by_cases hw:0<w
   ·have:decide ((0:Int)<(w:Int))=true:=by simp;omega
    rw[this,cond_true,qm hs hi (Js _ (List.getElem_mem hlt))]
    simp only[ac,aq,aa,ak,am,ah,ae,aj,ay,cond_true,cond_false,Bool.not_true,Bool.not_false,au,ar,ao]
    rw[ih (j+1) _ (by omega)]
    have:decide (0<w)=true:=by simp[hw]
    rw[this]
    simp
   ·have:decide ((0:Int)<(w:Int))=false:=by simp;omega
    have h2:decide (0<w)=false:=by simp;omega
    rw[this,cond_false,ih (j+1) false (by omega),h2]
    rfl
theorem gI: ∀w∈cj,Lv w:=by
 intro w hw
 simp only[cj,bK,fe,en,List.cons_append,List.nil_append,List.mem_cons,List.not_mem_nil,or_false]at hw
 rcases hw with rfl|rfl|rfl|rfl|rfl|rfl|rfl|rfl|rfl|rfl|rfl|rfl|rfl
 ·exact⟨[76,84],rfl,by decide⟩
 ·exact⟨[76,69],rfl,by decide⟩
 ·exact⟨[69,81],rfl,by decide⟩
 ·exact⟨[78,69],rfl,by decide⟩
 ·exact⟨[71,69],rfl,by decide⟩
 ·exact⟨[71,84],rfl,by decide⟩
 ·exact⟨[78,79,84],rfl,by decide⟩
 ·exact⟨[65,78,68],rfl,by decide⟩
 ·exact⟨[79,82],rfl,by decide⟩
 ·exact⟨[69,81,86],rfl,by decide⟩
 ·exact⟨[78,69,81,86],rfl,by decide⟩
 ·exact⟨[84,82,85,69],rfl,by decide⟩
 ·exact⟨[70,65,76,83,69],rfl,by decide⟩
theorem P8 {n:Nat}(h:cj.any (bv s n)=true):s[n]? =some 46:=by
 rw[List.any_eq_true]at h
 obtain⟨w,hw,hb⟩:=h
 have:=(fh (gI w hw) hb).1
 rw[ci]at this
 cases hg:s[n]? with
 |none=>rw[hg]at this;simp at this
 |some c=>rw[hg]at this;simp at this;rw[this]
theorem TX (hs:s.length≤200000){n:Nat}(hn:n≤s.length):(ev E).call 98 [LV.str s,LV.int .i64 (n:Int)] μ=some (.ret (.cv (lO (gG s n))) μ):=by
 have e46: ∀c:UInt8,decide ((c.toNat:Int)=46)=decide (c=46):=fun c=>cq (k:=46) (by omega)
 have hw:=oM hn
 have hap:fL 1 (bw bK) [CV.str ([46,84,82,85,69,46]:List UInt8),CV.str ([46,70,65,76,83,69,46]:List UInt8)]=true:=by decide
 have hwr:bw bK++[CV.str ([46,84,82,85,69,46]:List UInt8),CV.str ([46,70,65,76,83,69,46]:List UInt8)]=bw cj:=rfl
 have hwl:(bw cj).length=cj.length:=by simp[bw]
 refine aJ ?_
 rw[VJ,Ab hs hn]
 simp only[ac,aq,aa,ak,am,ah,ae,aj,ay,cond_true,cond_false,Bool.not_true,Bool.not_false,au,ar,ao]
 rw[Hu]
 simp only[ac,aq,aa,ak,am,ah,ae,aj,ay,cond_true,cond_false,Bool.not_true,Bool.not_false,au,ar,ao]
 have hl:=SL (μ:=μ) (n:=n) (w:=digR s n) (i:=n+digR s n) (a:=0) (b:=0) (c:=0) (d:=0) (t:=[]) hs hw cj.length 0 false (by omega)
 have e0:((0:Nat):Int)=0:=rfl
 rw[e0,List.drop_zero,Bool.false_or]at hl
 rw[hap,ay,hwr,hwl,gM (by omega),hl,aa,I4]
 have hW:(decide (0<digR s n)&&cj.any (bv s (n+digR s n)))=lp s n:=rfl
 rw[hW]
 have hfin: ∀q:Except Int (Tok×Nat),kB (ev E) 98 H98 [] (stN μ gc q)=some (.ret (.cv (lO q)) μ):=by
  intro q
  cases q with
  |ok q=>exact uh _ _ _ _ _ _ _
  |error e=>exact uh _ _ _ _ _ _ _
 have hword: ∀{x:Bool},lp s n=x→x=true→s[n+digR s n]? =some 46:=by
  intro x h1 h2
  rw[h2]at h1
  unfold lp at h1
  rw[Bool.and_eq_true]at h1
  exact P8 h1.2
 have hno: ∀{x:Bool},lp s n=x→(opt (oA (ev E) s (n:Int) (digR s n:Nat) ((n+digR s n:Nat):Int) x false 0 0 0 [] 0 0 μ) (kB (ev E) 98 H98 []))=some (.ret (.cv (lO (gF s ((s.drop n).take (digR s n)) [] false (n+digR s n)))) μ):=by
  intro x hx
  have:=Cu (μ:=μ) (n:=n) (w:=digR s n) (e:=n+digR s n) (p:=0) (a:=0) (b:=0) (c:=0) (d:=0) (t:=[]) (word:=x) (point:=false) hs hw hw (by intro h;cases h) (hword hx)
  rw[e0]at this
  rw[this,aa,hfin]
  rfl
 unfold gG
 cases hx:lp s n with
 |true=>rw[Bool.not_true,cond_false,hno hx];rfl
 |false=>
  rw[Bool.not_false,cond_true]
  by_cases hlt:n+digR s n<s.length
  ·rw[cL hlt,cond_true,co hlt]
   simp only[aa,e46]
   rw[List.getElem?_eq_getElem hlt]
   by_cases h46:s[n+digR s n]=46
   ·have:decide (s[n+digR s n]=46)=true:=by simp[h46]
    have hp:=oM (s:=s) (n:=n+digR s n+1) hlt
    rw[this,cond_true,bU (by omega),Ab hs hlt]
    simp only[ac,aq,aa,ak,am,ah,ae,aj,ay,cond_true,cond_false,Bool.not_true,Bool.not_false,au,ar,ao]
    rw[gM (n:=n+digR s n+1) (m:=digR s (n+digR s n+1)) (by omega),Cu hs hw hp (fun _=>hp) (by intro h;cases h),aa,hfin]
    have h2:(true&&decide ((some s[n+digR s n]:Option UInt8)=some 46))=true:=by simp[h46]
    rw[h2,if_pos rfl]
    rfl
   ·have:decide (s[n+digR s n]=46)=false:=by simp[h46]
    have h2:(true&&decide ((some s[n+digR s n]:Option UInt8)=some 46))=false:=by simp[h46]
    rw[this,cond_false,hno hx,h2]
    rfl
  ·have h2:(true&&decide (s[n+digR s n]? =some 46))=false:=by rw[List.getElem?_eq_none (by omega)];rfl
   rw[cW (by omega),cond_false,hno hx,h2]
   rfl
end
end Go.Abs
set_option linter.unusedVariables false
set_option linter.unusedSimpArgs false
set_option maxRecDepth 100000
namespace Go.Abs
open Go Go.Proofs
section
variable {s:List UInt8}{n:Nat}
theorem gJ:cj=bK++[fe,en]:=rfl
theorem J5 (h:atC false s n=46):cj.any (bv s n)=(br false s n).2.2:=by
 have hd:(br false s n).2.2=dY false s n:=by unfold br;rw[if_pos h]
 rw[hd]
 apply Bool.eq_iff_iff.2
 constructor
 ·intro ha
  rw[List.any_eq_true]at ha
  obtain⟨w,hw,hb⟩:=ha
  obtain⟨_,h2,h3,_⟩:=fh (gI w hw) hb
  unfold dY
  rw[h2,h3]
  rw[gJ,List.mem_append]at hw
  rcases hw with hw|hw
  ·have:bK.contains w=true:=List.contains_iff_mem.2 hw
   rw[this];rfl
  ·simp only[List.mem_cons,List.not_mem_nil,or_false]at hw
   rcases hw with rfl|rfl
   ·simp
   ·simp
 ·intro ha
  unfold dY at ha
  simp only[Bool.and_eq_true,Bool.or_eq_true,decide_eq_true_eq]at ha
  obtain⟨h3,h4⟩:=ha
  have hm:cP false s n∈cj:=by
   rw[gJ,List.mem_append]
   rcases h4 with(h4|h4)|h4
   ·exact Or.inl (List.contains_iff_mem.1 h4)
   ·rw[h4];exact Or.inr (by simp)
   ·rw[h4];exact Or.inr (by simp)
  rw[List.any_eq_true]
  exact⟨_,hm,zG h rfl h3⟩
theorem qI: ∀(l:List UInt8),l≠[]→bM l=bi (l.dropWhile (· == 48))
 |[],h=>absurd rfl h
 |[c],_=>by
  unfold bM bi
  by_cases hc:c=48
  ·simp[hc]
  ·simp[hc]
 |c::d::r,_=>by
  unfold bM
  by_cases hc:c=48
  ·have:(c::d::r).dropWhile (· ==(48:UInt8))=(d::r).dropWhile (· == 48):=by
    rw[List.dropWhile_cons,hc];rfl
   rw[if_pos hc,qI (d::r) (by simp),this]
  ·rw[if_neg hc,List.dropWhile_cons]
   simp[hc,bi]
theorem rS (l:List UInt8):before l=bi (dr l):=by
 unfold before dr Lib.trimLeftB
 by_cases h:l=[]
 ·subst h;rfl
 ·have:bi l=l:=by unfold bi;rw[if_neg h]
  rw[this]
  exact qI l h
theorem Ja (l:List UInt8):(bi l).reverse=bi l.reverse:=by
 unfold bi
 by_cases h:l=[]
 ·subst h;rfl
 ·rw[if_neg h,if_neg (by simpa using h)]
theorem vB (l:List UInt8):after l=bi (bT l):=by
 unfold after bT Lib.trimRightB fZ
 by_cases h:l=[]
 ·subst h;rfl
 ·have:bi l=l:=by unfold bi;rw[if_neg h]
  rw[this,qI l.reverse (by simpa using h),Ja]
theorem qb (l:List UInt8):countR (bi (dr l))=(dr l).length:=by
 unfold countR bi
 by_cases h:dr l=[]
 ·rw[if_pos h,if_pos rfl,h];rfl
 ·rw[if_neg h,if_neg]
  intro h2
  unfold dr Lib.trimLeftB at h2
  have:=List.head_dropWhile_not (· ==(48:UInt8)) (l:=l) (by rw[h2];simp)
  simp only[h2]at this
  simp at this
theorem oc (l:List UInt8):countR (bi (bT l))=(bT l).length:=by
 unfold countR bi
 by_cases h:bT l=[]
 ·rw[if_pos h,if_pos rfl,h];rfl
 ·rw[if_neg h,if_neg]
  intro h2
  unfold bT Lib.trimRightB at h2
  have h3:l.reverse.dropWhile (· ==(48:UInt8))=[48]:=by
   have:=congrArg List.reverse h2
   simpa using this
  have:=List.head_dropWhile_not (· ==(48:UInt8)) (l:=l.reverse) (by rw[h3];simp)
  simp only[h3]at this
  simp at this
theorem na: ∀(a b:List UInt8),a.length=b.length→(∀x∈a,av x=true)→(∀x∈b,av x=true)→Op.bytesLess a b=true→valD 0 a<valD 0 b
 |[],[],_,_,_,h=>by simp[Op.bytesLess]at h
 |[],_::_,hl,_,_,_=>by simp at hl
 |_::_,[],hl,_,_,_=>by simp at hl
 |x::a,y::b,hl,ha,hb,h=>by
  simp only[List.length_cons,Nat.add_right_cancel_iff]at hl
  have hx:=cm.1 (ha x List.mem_cons_self)
  have hy:=cm.1 (hb y List.mem_cons_self)
  have ha': ∀x∈a,av x=true:=fun z hz=>ha z (List.mem_cons_of_mem _ hz)
  have hb': ∀x∈b,av x=true:=fun z hz=>hb z (List.mem_cons_of_mem _ hz)
  rw[du,du,ph a,ph b,hl]
  have h1:=(dL a 0 ha').2
  rw[hl]at h1
  simp only[Op.bytesLess,Bool.or_eq_true,Bool.and_eq_true,decide_eq_true_eq,beq_iff_eq]at h
  rcases h with h|⟨h,h2⟩
  ·have hlt:x.toNat<y.toNat:=UInt8.lt_iff_toNat_lt.1 h
   have h3:(0*10+(x.toNat-48)+1)*10^b.length≤(0*10+(y.toNat-48))*10^b.length:=Nat.mul_le_mul_right _ (by omega)
   rw[Nat.add_mul]at h3
   omega
  ·subst h
   have:=na a b hl ha' hb' h2
   omega
theorem qn: ∀(a b:List UInt8),a.length=b.length→Op.bytesLess a b=true∨a=b∨Op.bytesLess b a=true
 |[],[],_=>Or.inr (Or.inl rfl)
 |[],_::_,hl=>by simp at hl
 |_::_,[],hl=>by simp at hl
 |x::a,y::b,hl=>by
  simp only[List.length_cons,Nat.add_right_cancel_iff]at hl
  simp only[Op.bytesLess,Bool.or_eq_true,Bool.and_eq_true,decide_eq_true_eq,beq_iff_eq,List.cons.injEq]
  by_cases h1:x<y
  ·exact Or.inl (Or.inl h1)
  ·by_cases h2:y<x
   ·exact Or.inr (Or.inr (Or.inl h2))
   ·have:x=y:=by
     apply UInt8.toNat.inj
     rw[UInt8.lt_iff_toNat_lt]at h1 h2
     omega
    subst this
    rcases qn a b hl with h|h|h
    ·exact Or.inl (Or.inr ⟨rfl,h⟩)
    ·exact Or.inr (Or.inl ⟨rfl,h⟩)
    ·exact Or.inr (Or.inr (Or.inr ⟨rfl,h⟩))
theorem kM:valD 0 cM=2147483647:=by decide
theorem qr: ∀x∈cM,av x=true:=by decide
theorem RS {w:List UInt8}(hd: ∀b∈w,av b=true)(h0:w≠[])(e:Nat):lY w e=(match cg w with| .ok t=> .ok (t,e)| .error x=> .error x):=by
 unfold lY cg
 by_cases h10:10<w.length
 ·rw[if_pos h10,if_pos (Or.inl h10)]
 ·rw[if_neg h10]
  have ha:=dJ hd h0 (by omega)
  have hN:b7 w=(valD 0 w:Nat):=by unfold b7;rw[ha]
  have hK:ja w=true:=by unfold ja;rw[ha]
  have hT:=sW w
  have hTd: ∀b∈bM w,av b=true:=fun b hb=>hd b (lS w b hb)
  have key:((bM w).length=10∧(Op.bytesLess (bM w) cM||decide (bM w=cM))=false)↔2147483647<valD 0 w:=by
   by_cases hl:(bM w).length=10
   ·have hlm:(bM w).length=cM.length:=hl
    constructor
    ·rintro⟨_,h2⟩
     rw[Bool.or_eq_false_iff]at h2
     rcases qn (bM w) cM hlm with h|h|h
     ·rw[h]at h2;exact absurd h2.1 (by simp)
     ·rw[h]at h2;exact absurd h2.2 (by simp)
     ·have:=na _ _ hlm.symm qr hTd h
      rw[kM,hT]at this
      exact this
    ·intro h
     refine⟨hl,?_⟩
     rw[Bool.or_eq_false_iff]
     constructor
     ·cases hb:Op.bytesLess (bM w) cM with
      |false=>rfl
      |true=>
       have:=na _ _ hlm hTd qr hb
       rw[kM,hT]at this
       omega
     ·simp only[decide_eq_false_iff_not]
      intro hb
      rw[hb,kM]at hT
      omega
   ·constructor
    ·rintro⟨h,_⟩;exact absurd h hl
    ·intro h
     exfalso
     have h1:=(dL (bM w) 0 hTd).2
     have h2:=nV w
     have h3:(10:Nat)^(bM w).length≤10^9:=Nat.pow_le_pow_right (by omega) (by omega)
     rw[hT]at h1
     omega
  by_cases hm:2147483647<valD 0 w
  ·rw[if_pos (key.2 hm),if_pos (Or.inr (Or.inr (by rw[hN];omega)))]
  ·rw[if_neg (fun h=>hm (key.1 h)),if_neg (by rw[hN,hK];simp;omega),hN,NK hd h0]
theorem yY {x:Int}:Lib.itoa x=[48]↔x=0:=by
 constructor
 ·intro h
  by_cases h0:0≤x
  ·obtain⟨m,rfl⟩: ∃m:Nat,x=(m:Int):=⟨x.toNat,by omega⟩
   rw[g8]at h
   by_cases h9:m<10
   ·rw[Lib.decDigits_one h9]at h
    injection h with h _
    have:=congrArg UInt8.toNat h
    rw[UInt8.toNat_ofNat_of_lt' (by show 48+m<256;omega)]at this
    have h48:(48:UInt8).toNat=48:=rfl
    omega
   ·have hl:=congrArg List.length h
    rw[Lib.decDigits,dif_neg h9]at hl
    have:=Lib.nDigits_pos (m / 10)
    rw[List.length_append,Lib.decDigits_length]at hl
    simp at hl
    omega
  ·obtain⟨m,rfl⟩: ∃m:Nat,x= -(m:Int):=⟨(-x).toNat,by omega⟩
   rw[vH (by omega)]at h
   injection h with h _
   exact absurd h (by decide)
 ·intro h
  subst h
  have:(0:Int)=((0:Nat):Int):=rfl
  rw[this,g8,Lib.decDigits_one (by omega)]
  rfl
theorem gH {D:List UInt8}(hd: ∀b∈D,av b=true):Lib.trimPrefix D [45]=D∧Lib.trimPrefix ([45]++D) [45]=D:=by
 constructor
 ·cases D with
  |nil=>rfl
  |cons c r=>
   have:c≠45:=by rintro rfl;exact absurd (hd _ List.mem_cons_self) (by decide)
   have h2:(45 == c)=false:=by simpa using fun h:45=c=>this h.symm
   simp[Lib.trimPrefix,Lib.hasPrefix,List.isPrefixOf,h2]
 ·simp[Lib.trimPrefix,Lib.hasPrefix,List.isPrefixOf]
theorem Mx {whole part digits:List UInt8}{letter:UInt8}{e:Nat}:dS whole part 1 0 e=real whole part digits letter false e:=by
 unfold dS real jH dh ey ed
 rw[rS,vB,qb,oc]
 by_cases h30:30<(dr whole).length+(bT part).length
 ·simp[h30]
 ·simp[h30]
theorem zo {whole part:List UInt8}{e m:Nat}(he:(aP false s e).2.2.2=true):(if 3<(aR false s e).length then .error 7 else dS whole part (if(aP false s e).1=68 then 2 else 1) (dO s e) m)=real whole part (aP false s e).2.1 (aP false s e).1 true m:=by
 have hL:ce false s e=69∨ce false s e=68:=by
  unfold aP at he
  split at he
  ·assumption
  ·simp at he
 have hx:aP false s e=(ce false s e,cp false s e++aR false s e,runE false av s (expStart false s e),!decide (aR false s e=[])):=by unfold aP;rw[if_pos hL]
 have hne:aR false s e≠[]:=by
  rw[hx]at he
  simpa using he
 have hdig: ∀b∈aR false s e,av b=true:=im
 rw[hx]
 simp only
 have hlt:e<s.length:=by
  rcases Nat.lt_or_ge e s.length with h|h
  ·exact h
  ·exfalso
   unfold ce at hL
   rw[ci,List.getElem?_eq_none h]at hL
   exact absurd hL (by decide)
 have hE:atE false s e=e+1:=by rw[cI,if_pos hlt]
 have hS:cp false s e=if atC false s (e+1)=45 then [45]else []:=by unfold cp;rw[hE]
 have hpre:Lib.trimPrefix (cp false s e++aR false s e) [45]=aR false s e:=by
  rw[hS]
  split
  ·exact(gH hdig).2
  ·exact(gH hdig).1
 unfold real jH
 rw[hpre]
 by_cases h3:3<(aR false s e).length
 ·simp[h3]
 ·rw[if_neg h3]
  have hval:b7 (cp false s e++aR false s e)=dO s e:=by
   unfold dO
   rw[hS]
   by_cases h45:atC false s (e+1)=45
   ·rw[if_pos h45,if_pos h45]
    unfold b7
    rw[List.singleton_append,p5 hdig hne (by omega)]
   ·rw[if_neg h45,if_neg h45]
    unfold b7
    rw[List.nil_append,dJ hdig hne (by omega)]
  unfold dS dh ey ed
  rw[rS,vB,qb,oc,hval]
  by_cases h30:30<(dr whole).length+(bT part).length
  ·simp[h30]
  ·have hz:=yY (x:=dO s e)
   have h3d:decide (3<(aR false s e).length)=false:=by simp[h3]
   have h30d:decide (30<(dr whole).length+(bT part).length)=false:=by simp[h30]
   rw[if_neg h30,h3d,h30d]
   simp only[Bool.false_and,Bool.or_self,Bool.false_eq_true,if_false,and_true,if_true]
   by_cases h68:ce false s e=68
   ·rw[if_pos h68,if_pos rfl,if_pos h68]
   ·rw[if_neg h68,if_neg (by decide),if_neg h68]
    by_cases h0:dO s e=0
    ·rw[if_neg (by simp[h0]),if_pos (hz.2 h0)]
    ·rw[if_pos h0,if_neg (fun h=>h0 (hz.1 h))]
     simp
theorem qx {c:UInt8}(h:s[n]? =some c)(hc:av c=true∨(c=46∧av ((s[n+1]?).getD 0)=true)):gG s n=b9 false s n:=by
 have hn:=ge h
 have hw:=oM (s:=s) (n:=n) (by omega)
 have hwhole:bG false s n=(s.drop n).take (digR s n):=(kC).1
 have hrun:runE false av s n=n+digR s n:=(kC).2
 have hdig: ∀b∈bG false s n,av b=true:=im
 have hwl:(bG false s n).length=digR s n:=by rw[hwhole];simp;omega
 have hdot:(!lp s n&&decide (s[n+digR s n]? =some 46))=cr false s n:=by
  unfold cr lp
  rw[hrun]
  by_cases h46:s[n+digR s n]? =some 46
  ·have ha:atC false s (n+digR s n)=46:=by rw[ci,h46];rfl
   rw[J5 ha,ha]
   have:decide (bG false s n=[])= !decide (0<digR s n):=by
    by_cases h0:0<digR s n
    ·have:bG false s n≠[]:=by intro hh;rw[hh]at hwl;simp at hwl;omega
     simp[h0,this]
    ·have:bG false s n=[]:=List.eq_nil_of_length_eq_zero (by omega)
     simp[h0,this]
   rw[this]
   simp only[h46,decide_true,Bool.and_true,Bool.true_and]
   cases decide (0<digR s n)<;>cases (br false s (n+digR s n)).2.2<;>rfl
  ·have ha:atC false s (n+digR s n)≠46:=by
    rw[ci]
    cases hg:s[n+digR s n]? with
    |none=>decide
    |some x=>intro hh;apply h46;rw[hg];simpa using hh
   simp[h46,ha]
 have hdotne:cr false s n=false→bG false s n≠[]:=by
  intro hf hnil
  rcases hc with hc|⟨hc1,hc2⟩
  ·have:digR s n=0:=by rw[←hwl,hnil];rfl
   unfold digR at this
   rw[List.drop_eq_getElem_cons hn,List.takeWhile_cons]at this
   rw[List.getElem?_eq_getElem hn]at h
   injection h with h
   rw[h,hc]at this
   simp at this
  ·unfold cr at hf
   have h0:digR s n=0:=by rw[←hwl,hnil];rfl
   have ha:atC false s (n+digR s n)=46:=by rw[h0,Nat.add_zero,ci,h,hc1];rfl
   rw[hrun,ha,hnil]at hf
   simp at hf
 unfold gG b9
 rw[hdot,←hwhole]
 cases hD:cr false s n with
 |true=>
  have hlt:n+digR s n<s.length:=by
   have:=hdot
   rw[hD,Bool.and_eq_true,decide_eq_true_eq]at this
   exact ge this.2
  have hE:atE false s (n+digR s n)=n+digR s n+1:=by rw[cI,if_pos hlt]
  have hend:numEnd false s n=n+digR s n+1+digR s (n+digR s n+1):=by
   unfold numEnd;rw[if_pos hD,hrun,hE];exact(kC).2
  have hpart:dg false s n=(s.drop (n+digR s n+1)).take (digR s (n+digR s n+1)):=by
   unfold dg;rw[if_pos hD,hrun,hE];exact(kC).1
  rw[if_pos rfl,←hend,←hpart]
  simp only[Bool.not_true,Bool.false_and,Bool.false_eq_true,if_false]
  unfold gF
  cases hq:(aP false s (numEnd false s n)).2.2.2 with
  |true=>
   rw[if_pos rfl]
   simp only[if_true]
   exact zo hq
  |false=>
   rw[if_neg (by simp),if_pos rfl]
   exact Mx
 |false=>
  have hend:numEnd false s n=n+digR s n:=by unfold numEnd;rw[if_neg (by rw[hD];simp),hrun]
  have hpart:dg false s n=[]:=by unfold dg;rw[if_neg (by rw[hD];simp)]
  rw[if_neg (by simp),←hend,hpart]
  unfold gF
  have hq1: ∀{α:Type} {x y:α},(aP false s (numEnd false s n)).2.2.2=true→(if(!false&& !(aP false s (numEnd false s n)).2.2.2)=true then x else y)=y:=by
   intro α x y h;rw[h];rfl
  have hq2: ∀{α:Type} {x y:α},(aP false s (numEnd false s n)).2.2.2=false→(if(!false&& !(aP false s (numEnd false s n)).2.2.2)=true then x else y)=x:=by
   intro α x y h;rw[h];rfl
  cases hq:(aP false s (numEnd false s n)).2.2.2 with
  |true=>
   simp only[hq,Bool.not_false,Bool.not_true,Bool.and_false,Bool.false_eq_true,if_false,if_true]
   exact zo hq
  |false=>
   simp only[hq,Bool.not_false,Bool.and_true,Bool.false_eq_true,if_false,if_true]
   exact RS hdig (hdotne hD) _
end
end Go.Abs
