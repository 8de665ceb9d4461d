/-
  The statement ExprChecksCardSaid, proved; part 8 of 10 of its proof.
-/
import Derived.Test.YtmemoghbijcebaaGreatDoorP5
import Derived.Test.YtmemoghbijcebaaGreatDoorP6
import Derived.Test.YtmemoghbijcebaaGreatDoorP4
import Derived.Lib.MapLaws
import Derived.Lib.TrimAscii
import Derived.Lib.Case
import Derived.Lib.ItoaLen
import Derived.Lib.IndexMore
import Derived.Lib.IndexBytes
import Derived.Lib.Replace
import Derived.Lib.AtoiAllCases
set_option linter.all false
set_option linter.unusedSectionVars false
set_option linter.unusedVariables false
set_option linter.unusedSimpArgs false
set_option maxRecDepth 100000
namespace Go.Abs
open Go Go.Proofs
def Sc (μ:Mu)(l i:Nat)(s:List UInt8)(fx:Bool)(r:List LV):Prop:=aU μ l i= .cells (LV.str s::LV.bool fx::r)
def bq:List UInt8→Nat
 |[]=>0
 |c::r=>if c=32 then bq r+1 else 0
def skipN (fx:Bool)(s:List UInt8)(n:Nat):Nat:=if fx then n+bq (s.drop n)else n
section
variable {μ:Mu}{l i:Nat}{s:List UInt8}{fx:Bool}{r:List LV}
theorem T5 (h:Sc μ l i s fx r)(hs:s.length≤1000000): ∀(k n:Nat),n+k=s.length→CP (ev E) l i (n:Int) μ=some (mm (skipN fx s n:Nat) μ):=by
 intro k
 induction k with
 |zero=>
  intro n hk
  refine aW ?_
  rw[Ez,h]
  simp only[xF,rV,aa,ae,gh,dn,ah]
  have:List.drop n s=[]:=List.drop_eq_nil_of_le (by omega)
  have h1:decide ((n:Int)<(s.length:Int))=false:=by simp;omega
  rw[h1]
  cases fx<;>simp[skipN,bq,this]
 |succ k ih=>
  intro n hk
  refine aW ?_
  rw[Ez,h]
  simp only[xF,rV,aa,ae,gh,dn,ah]
  have h1:decide ((n:Int)<(s.length:Int))=true:=by simp;omega
  have hn:n<s.length:=by omega
  rw[h1,mL,List.getElem?_eq_getElem hn,aa]
  have hd:List.drop n s=s[n]::List.drop (n+1) s:=List.drop_eq_getElem_cons hn
  have e:IntKind.wrap .i64 ((n:Int)+1)=((n+1:Nat):Int):=by rw[bB (by omega) (by omega)];omega
  rw[e,ih (n+1) (by omega)]
  cases fx
  ·simp[skipN]
  ·simp only[cond_true,skipN,if_true,hd,bq]
   by_cases hc:s[n]=32
   ·have:decide (((s[n]).toNat:Int)=32)=true:=by rw[hc];decide
    rw[this]
    simp only[cond_true,hc,if_true]
    congr 3
    omega
   ·have:decide (((s[n]).toNat:Int)=32)=false:=by
     simp only[decide_eq_false_iff_not]
     intro h2
     apply hc
     apply UInt8.toNat.inj
     have:(s[n]).toNat=32:=by omega
     rw[this];rfl
    rw[this]
    simp[hc]
theorem VG (h:Sc μ l i s fx r)(hs:s.length≤1000000){n:Nat}(hn:n≤s.length):(ev E).call 207 [LV.cv (CV.ref l i 0),LV.int .i64 (n:Int)] μ=some (.ret (LV.int .i64 (skipN fx s n:Nat)) μ):=by
 refine aJ ?_
 rw[XS,T5 h hs (s.length-n) n (by omega),aa,HD]
theorem oO: ∀(l:List UInt8),bq l≤l.length
 |[]=>Nat.le_refl _
 |c::r=>by
  unfold bq
  have:=oO r
  split<;>simp<;>omega
theorem FB {n:Nat}(hn:n≤s.length):skipN fx s n≤s.length:=by
 unfold skipN
 have:=oO (s.drop n)
 rw[List.length_drop]at this
 split<;>omega
theorem FA {n:Nat}:n≤skipN fx s n:=by
 unfold skipN
 split<;>omega
def atC (fx:Bool)(s:List UInt8)(n:Nat):UInt8:=(s[skipN fx s n]?).getD 0
def atE (fx:Bool)(s:List UInt8)(n:Nat):Nat:=if skipN fx s n<s.length then skipN fx s n+1 else skipN fx s n
theorem iU (h:Sc μ l i s fx r)(hs:s.length≤1000000){n:Nat}(hn:n≤s.length):
  (ev E).call 189 [LV.cv (CV.ref l i 0),LV.int .i64 (n:Int)] μ=some (.ret (.ltup [LV.int .u8 ((atC fx s n).toNat:Int),LV.int .i64 (atE fx s n:Nat)]) μ):=by
 refine aJ ?_
 rw[XJ,VG h hs hn,ad,am,aa,h,gh,dn,aa,ah,aa]
 have hle:=FB (fx:=fx) hn
 by_cases hlt:skipN fx s n<s.length
 ·have h1:decide ((s.length:Int)≤(skipN fx s n:Int))=false:=by simp;omega
  rw[h1,cond_false]
  have h2:MT (ev E) l i (skipN fx s n:Nat) μ=some (sV ((atC fx s n).toNat:Int) (atE fx s n:Nat) μ):=by
   refine aR ?_
   rw[RE,h,gh,dn,aa,ah,aa,mL,List.getElem?_eq_getElem hlt,aa]
   simp only[atC,atE,hlt,if_true,List.getElem?_eq_getElem,Option.getD_some]
   rw[bB (by omega) (by omega)]
   rfl
  rw[h2,aa,GO]
 ·have h1:decide ((s.length:Int)≤(skipN fx s n:Int))=true:=by simp;omega
  rw[h1,cond_true]
  have:s[skipN fx s n]? =none:=List.getElem?_eq_none (by omega)
  simp only[atC,atE,hlt,if_false,this,Option.getD_none]
  rfl
def fC (fx:Bool)(p:UInt8→Bool):List UInt8→Nat→List UInt8×Nat
 |[],_=>([],0)
 |c::r,k=>if fx&&c == 32 then fC fx p r (k+1)else if c != 0&&p c then(c::(fC fx p r 0).1,k+1+(fC fx p r 0).2)else([],0)
def cK (fx:Bool)(p:UInt8→Bool)(s:List UInt8)(n:Nat):List UInt8:=(fC fx p (s.drop n) 0).1
def runE (fx:Bool)(p:UInt8→Bool)(s:List UInt8)(n:Nat):Nat:=n+(fC fx p (s.drop n) 0).2
theorem ww {p:UInt8→Bool}: ∀(l:List UInt8) (k:Nat),fC true p l k=fC true p (l.drop (bq l)) (k+bq l)
 |[],k=>rfl
 |c::r,k=>by
  by_cases hc:c=32
  ·have e1:fC true p (c::r) k=fC true p r (k+1):=by simp[fC,hc]
   have e2:bq (c::r)=bq r+1:=by simp[bq,hc]
   rw[e1,e2,ww r (k+1)]
   simp only[List.drop_succ_cons]
   congr 1
   omega
  ·have e2:bq (c::r)=0:=by simp[bq,hc]
   rw[e2];rfl
theorem pg: ∀(l:List UInt8) (c:UInt8) (r:List UInt8),l.drop (bq l)=c::r→c≠32
 |[],c,r,h=>by simp[bq]at h
 |d::t,c,r,h=>by
  by_cases hd:d=32
  ·have e2:bq (d::t)=bq t+1:=by simp[bq,hd]
   rw[e2,List.drop_succ_cons]at h
   exact pg t c r h
  ·have e2:bq (d::t)=0:=by simp[bq,hd]
   rw[e2]at h
   simp only[List.drop_zero,List.cons.injEq]at h
   rw[←h.1];exact hd
theorem Fv {p:UInt8→Bool}{n:Nat}:(cK fx p s n,runE fx p s n)=if atC fx s n != 0&&p (atC fx s n)then(atC fx s n::cK fx p s (atE fx s n),runE fx p s (atE fx s n))else([],n):=by
 have key: ∀m k,skipN fx s n=m→m=n+k→fC fx p (s.drop n) 0=fC fx p (s.drop m) k→(∀c t,s.drop m=c::t→(fx&&c == 32)=false)→
   (cK fx p s n,runE fx p s n)=if atC fx s n != 0&&p (atC fx s n)then(atC fx s n::cK fx p s (atE fx s n),runE fx p s (atE fx s n))else([],n):=by
  intro m k hm hk hrun hc
  simp only[cK,runE,atC,atE,hm]
  rw[hrun]
  by_cases hlt:m<s.length
  ·have hd:s.drop m=s[m]::s.drop (m+1):=List.drop_eq_getElem_cons hlt
   have hc':=hc _ _ hd
   rw[hd]
   simp only[fC,hc',Bool.false_eq_true,if_false,List.getElem?_eq_getElem hlt,Option.getD_some,hlt,if_true]
   split
   ·simp only[Prod.mk.injEq,true_and];omega
   ·rfl
  ·have hd:s.drop m=[]:=List.drop_eq_nil_of_le (by omega)
   rw[hd]
   simp[fC,List.getElem?_eq_none (by omega:s.length≤m)]
 cases fx with
 |false=>exact key n 0 rfl rfl rfl fun c t _=>rfl
 |true=>
  refine key (n+bq (s.drop n)) (bq (s.drop n)) (by simp[skipN]) rfl ?_ fun c t h=> ?_
  ·rw[ww,List.drop_drop,Nat.zero_add]
  ·have:=pg (s.drop n) c t (by rw[List.drop_drop];exact h)
   simp[this]
theorem Bx {p:UInt8→Bool}{n:Nat}(h:(atC fx s n != 0&&p (atC fx s n))=true):cK fx p s n=atC fx s n::cK fx p s (atE fx s n)∧runE fx p s n=runE fx p s (atE fx s n):=by
 have:=Fv (fx:=fx) (s:=s) (p:=p) (n:=n)
 rw[h,if_pos rfl,Prod.mk.injEq]at this
 exact this
theorem rR {p:UInt8→Bool}{n:Nat}(h:(atC fx s n != 0&&p (atC fx s n))=false):cK fx p s n=[]∧runE fx p s n=n:=by
 have:=Fv (fx:=fx) (s:=s) (p:=p) (n:=n)
 rw[h,if_neg (by simp),Prod.mk.injEq]at this
 exact this
theorem NB {n:Nat}(h:atC fx s n≠0):n<atE fx s n∧atE fx s n≤s.length:=by
 have h1:=FA (fx:=fx) (s:=s) (n:=n)
 by_cases hlt:skipN fx s n<s.length
 ·simp only[atE,hlt,if_true];omega
 ·exfalso
  apply h
  simp only[atC,List.getElem?_eq_none (by omega:s.length≤skipN fx s n),Option.getD_none]
theorem ii {n:Nat}(hn:n≤s.length):atE fx s n≤s.length:=by
 have:=FB (fx:=fx) hn
 unfold atE
 split<;>omega
theorem po {c:UInt8}:decide ((c.toNat:Int)=0)= !(c != 0):=by
 by_cases h:c=0
 ·subst h;rfl
 ·have:c.toNat≠0:=fun h2=>h (UInt8.toNat.inj h2)
  have h1:(c != 0)=true:=by simpa using h
  rw[h1]
  simp only[Bool.not_true,decide_eq_false_iff_not]
  omega
theorem TZ (h:Sc μ l i s fx r)(hs:s.length≤1000000){f:FuncId}{p:UInt8→Bool}(hp: ∀c:UInt8,(ev E).call f [LV.int .u8 (c.toNat:Int)] μ=some (.ret (LV.bool (p c)) μ)):
  ∀(k n:Nat) (acc:List UInt8),s.length-n≤k→n≤s.length→acc.length+(s.length-n)≤1000000→CM (ev E) l i (n:Int) f (bz acc) μ=some (oM (acc++cK fx p s n) (runE fx p s n:Nat) μ):=by
 intro k
 induction k with
 |zero=>
  intro n acc hk hn ha
  refine aW ?_
  rw[Ew,iU h hs hn]
  simp only[ad,ao,aa,ak,am,aj]
  have h0:atC fx s n=0:=by
   by_cases h0:atC fx s n=0
   ·exact h0
   ·have:=NB h0;omega
  obtain⟨h1,h2⟩:=rR (fx:=fx) (s:=s) (p:=p) (n:=n) (by rw[h0];rfl)
  rw[h0,h1,h2]
  simp only[po,dg,aa,List.append_nil]
  rfl
 |succ k ih=>
  intro n acc hk hn ha
  refine aW ?_
  rw[Ew,iU h hs hn]
  simp only[ad,ao,aa,ak,am,aj,po]
  by_cases h0:atC fx s n=0
  ·obtain⟨h1,h2⟩:=rR (fx:=fx) (s:=s) (p:=p) (n:=n) (by rw[h0];rfl)
   rw[h0,h1,h2]
   simp only[dg,aa,List.append_nil]
   rfl
  ·have h3:(atC fx s n != 0)=true:=by simp[h0]
   rw[h3,Bool.not_true,cond_false,hp,ad,ae,aa]
   cases hpc:p (atC fx s n)with
   |false=>
    obtain⟨h1,h2⟩:=rR (fx:=fx) (s:=s) (p:=p) (n:=n) (by rw[hpc];simp)
    rw[h1,h2]
    simp only[Bool.not_false,cond_true,dg,aa,List.append_nil]
   |true=>
    obtain⟨h1,h2⟩:=Bx (fx:=fx) (s:=s) (p:=p) (n:=n) (by rw[hpc,h3];rfl)
    obtain⟨h4,h5⟩:=NB h0
    have h6:MU (ev E) l i f (bz acc) ((atC fx s n).toNat:Int) (atE fx s n:Nat) μ=some (sW l i (atE fx s n:Nat) f (bz (acc++[atC fx s n])) μ):=by
     refine aR ?_
     have e:[CV.int .u8 ((atC fx s n).toNat:Int)]=bz [atC fx s n]:=rfl
     rw[RF,e,FQ (by simp;omega),aA,FW]
    simp only[Bool.not_true,cond_false,h6,aa,GP]
    rw[ih (atE fx s n) (acc++[atC fx s n]) (by omega) h5 (by simp;omega),h1,h2]
    simp
theorem qa (h:Sc μ l i s fx r)(hs:s.length≤1000000){f:FuncId}{p:UInt8→Bool}(hp: ∀c:UInt8,(ev E).call f [LV.int .u8 (c.toNat:Int)] μ=some (.ret (LV.bool (p c)) μ)){n:Nat}(hn:n≤s.length):
  (ev E).call 190 [LV.cv (CV.ref l i 0),LV.int .i64 (n:Int),LV.cv (CV.clo f [])] μ=some (.ret (.ltup [LV.str (cK fx p s n),LV.int .i64 (runE fx p s n:Nat)]) μ):=by
 refine aJ ?_
 have:=TZ h hs hp (s.length-n) n [] (Nat.le_refl _) hn (by simp;omega)
 have e:bz []=[]:=rfl
 rw[e,List.nil_append]at this
 rw[XK,this,aa,Hz]
end
end Go.Abs
namespace Go.Abs
def bh (c:UInt8):Bool:=(decide (97≤c.toNat)&&decide (c.toNat≤122))||(decide (65≤c.toNat)&&decide (c.toNat≤90))
def aL (c:UInt8):Bool:=decide (48≤c.toNat)&&decide (c.toNat≤57)
def bE (c:UInt8):Bool:=bh c||aL c||decide (c.toNat=95)
end Go.Abs
set_option linter.unusedVariables false
set_option linter.unusedSimpArgs false
set_option maxRecDepth 100000
namespace Go.Abs
open Go Go.Proofs
section
variable {μ:Mu}
theorem dI (a b:Nat):decide ((a:Int)≤(b:Int))=decide (a≤b):=by simp
theorem yS {c:UInt8}:(ev E).call 135 [LV.int .u8 (c.toNat:Int)] μ=some (.ret (LV.bool (bh c)) μ):=by
 refine aJ ?_
 rw[Xs]
 have e1:decide ((97:Int)≤(c.toNat:Int))=decide (97≤c.toNat):=dI 97 _
 have e2:decide ((c.toNat:Int)≤122)=decide (c.toNat≤122):=dI _ 122
 have e3:decide ((65:Int)≤(c.toNat:Int))=decide (65≤c.toNat):=dI 65 _
 have e4:decide ((c.toNat:Int)≤90)=decide (c.toNat≤90):=dI _ 90
 rw[e1,e2,e3,e4]
 unfold bh
 cases decide (97≤c.toNat)<;>cases decide (c.toNat≤122)<;>cases decide (65≤c.toNat)<;>rfl
theorem mA {c:UInt8}:(ev E).call 160 [LV.int .u8 (c.toNat:Int)] μ=some (.ret (LV.bool (aL c)) μ):=by
 refine aJ ?_
 rw[XD]
 have e1:decide ((48:Int)≤(c.toNat:Int))=decide (48≤c.toNat):=dI 48 _
 have e2:decide ((c.toNat:Int)≤57)=decide (c.toNat≤57):=dI _ 57
 rw[e1,e2]
 unfold aL
 cases decide (48≤c.toNat)<;>rfl
theorem Vt {c:UInt8}:(ev E).call 138 [LV.int .u8 (c.toNat:Int)] μ=some (.ret (LV.bool (bE c)) μ):=by
 refine aJ ?_
 rw[Xt,yS]
 simp only[ad,ao,aa,ak,am,ah,ae,aj,aA,cond_true,cond_false,Bool.not_true,Bool.not_false,av,au,aq]
 unfold bE
 cases bh c
 ·simp only[ad,ao,aa,ak,am,ah,ae,aj,aA,cond_true,cond_false,Bool.not_true,Bool.not_false,av,au,aq,mA]
  cases aL c
  ·simp only[ad,ao,aa,ak,am,ah,ae,aj,aA,cond_true,cond_false,Bool.not_true,Bool.not_false,av,au,aq,Bool.false_or]
   have:decide ((c.toNat:Int)=95)=decide (c.toNat=95):=by simp;omega
   rw[this]
  ·rfl
 ·rfl
def ru (x:List UInt8):List (List UInt8)→Nat→Int
 |[],_=> -1
 |a::r,j=>if x=a then(j:Int)else ru x r (j+1)
theorem xm (x:List UInt8): ∀(l:List (List UInt8)) (j:Nat),decide (0≤ru x l j)=l.contains x
 |[],j=>rfl
 |a::r,j=>by
  unfold ru
  by_cases h:x=a
  ·simp[h]
  ·have h1:(x == a)=false:=by simp[h]
   rw[if_neg h,xm x r (j+1),List.contains_cons,h1,Bool.false_or]
noncomputable def K5 (n:Int)(μ:Mu):St:=if n= -1 then tu μ else tr n μ
theorem V1 {l:List (List UInt8)}{x:List UInt8}(hl:l.length≤1000000): ∀(k j:Nat),j+k=l.length→
  CF (ev E) (bN l) x (l.length:Int) (j:Int) μ=some (K5 (ru x (l.drop j) j) μ):=by
 intro k
 induction k with
 |zero=>
  intro j hj
  refine aW ?_
  rw[Er]
  have:List.drop j l=[]:=List.drop_eq_nil_of_le (by omega)
  have h1:decide ((j:Int)<(l.length:Int))=false:=by simp;omega
  rw[h1,this]
  rfl
 |succ k ih=>
  intro j hj
  refine aW ?_
  rw[Er]
  have hlt:j<l.length:=by omega
  have h1:decide ((j:Int)<(l.length:Int))=true:=by simp;omega
  have hd:List.drop j l=l[j]::List.drop (j+1) l:=List.drop_eq_getElem_cons hlt
  have hg:(bN l)[j]? =some (CV.str l[j]):=by simp[bN,hlt]
  have e:IntKind.wrap .i64 ((j:Int)+1)=((j+1:Nat):Int):=by rw[bB (by omega) (by omega)];omega
  rw[h1,fD,hg,hd,e]
  simp only[ad,ao,aa,ak,am,ah,ae,aj,aA,cond_true,cond_false,Bool.not_true,Bool.not_false,av,au,aq,j9,ru]
  by_cases h:x=l[j]
  ·rw[if_pos h]
   have:decide (x=l[j])=true:=by simp[h]
   rw[this,cond_true,K5,if_neg (by omega)]
  ·rw[if_neg h]
   have:decide (x=l[j])=false:=by simp[h]
   rw[this,cond_false,ih (j+1) (by omega)]
theorem Qj {l:List (List UInt8)}{x:List UInt8}(hl:l.length≤1000000):aD E (ev E) 126 [LV.cv (CV.sl (bN l)),LV.str x] μ=some (.ret (LV.int .i64 (ru x l 0)) μ):=by
  have e:(bN l).length=l.length:=by simp[bN]
  have:=V1 (μ:=μ) (l:=l) (x:=x) hl l.length 0 (by omega)
  rw[List.drop_zero]at this
  rw[Xp,e]
  have e0:((0:Nat):Int)=(0:Int):=rfl
  rw[←e0,this,aa,K5]
  by_cases h:ru x l 0= -1
  ·rw[if_pos h,Hp,h]
  ·rw[if_neg h,Ho]
theorem Vr {l:List (List UInt8)}{x:List UInt8}(hl:l.length≤1000000):(ev E).call 126 [LV.cv (CV.sl (bN l)),LV.str x] μ=some (.ret (LV.int .i64 (ru x l 0)) μ):=aJ (Qj hl)
theorem yU {l:List (List UInt8)}{x:List UInt8}(hl:l.length≤1000000):(ev E).call 82 [LV.cv (CV.sl (bN l)),LV.str x] μ=some (.ret (LV.bool (l.contains x)) μ):=by
 refine aJ ?_
 rw[Zp,Vr hl]
 simp only[ad,ao,aa,ak,am,ah,ae,aj,aA,cond_true,cond_false,Bool.not_true,Bool.not_false,av,au,aq]
 rw[xm]
end
end Go.Abs
set_option linter.unusedVariables false
set_option linter.unusedSimpArgs false
set_option maxRecDepth 100000
namespace Go.Abs
open Go Go.Proofs
def upB (c:UInt8):UInt8:=if 97≤c.toNat∧c.toNat≤122 then c-32 else c
theorem UT: ∀i:Fin 128,(if 0≤Lib.toUpperU (i.val:Int)then Lib.encodeRune (Lib.toUpperU (i.val:Int))else [])=[upB (UInt8.ofNat i.val)]:=by decide
theorem lN: ∀(l:List UInt8),(∀b∈l,b.toNat<128)→Lib.toUpperD l=l.map upB
 |[],_=>rfl
 |b::t,ha=>by
  have hb:=ha b List.mem_cons_self
  have ih:=lN t (fun x hx=>ha x (List.mem_cons_of_mem _ hx))
  have h1:=UT ⟨b.toNat,hb⟩
  simp only at h1
  unfold Lib.toUpperD at ih ⊢
  rw[Lib.mapD_step Lib.toUpperU (b::t) (by simp),Lib.decodeL_ascii b t hb]
  dsimp only
  rw[h1,List.drop_succ_cons,List.drop_zero,ih]
  simp
theorem xI {fx:Bool}{p:UInt8→Bool}: ∀(l:List UInt8) (k:Nat),∀b∈(fC fx p l k).1,p b=true
 |[],k,b,hb=>by simp[fC]at hb
 |c::r,k,b,hb=>by
  unfold fC at hb
  split at hb
  ·exact xI r (k+1) b hb
  ·split at hb
   ·rename_i h
    simp only[List.mem_cons]at hb
    rcases hb with rfl|hb
    ·simp only[Bool.and_eq_true]at h;exact h.2
    ·exact xI r 0 b hb
   ·simp at hb
theorem og {fx:Bool}{p:UInt8→Bool}{s:List UInt8}{n:Nat}: ∀b∈cK fx p s n,p b=true:=xI _ _
end Go.Abs
set_option linter.unusedVariables false
set_option linter.unusedSimpArgs false
set_option maxRecDepth 100000
namespace Go.Abs
open Go Go.Proofs
def cL:List (List UInt8):=[[46,76,84,46],[46,76,69,46],[46,69,81,46],[46,78,69,46],[46,71,69,46],[46,71,84,46],[46,78,79,84,46],[46,65,78,68,46],[46,79,82,46],[46,69,81,86,46],[46,78,69,81,86,46]]
def bV:List (List UInt8):=[[42,42],[47,47],[61,62],[42],[47],[43],[45],[40],[41],[44],[58],[61],[37]]
def gl:List UInt8:=[46,84,82,85,69,46]
def eT:List UInt8:=[46,70,65,76,83,69,46]
abbrev up (s:List UInt8):List UInt8:=Lib.toUpperD s
theorem vG {fx:Bool}{p:UInt8→Bool}: ∀(l:List UInt8) (k:Nat),(fC fx p l k).1.length≤l.length∧(fC fx p l k).2≤k+l.length
 |[],k=>⟨Nat.le_refl _,by simp[fC]⟩
 |c::r,k=>by
  unfold fC
  have h1:=vG (fx:=fx) (p:=p) r (k+1)
  have h2:=vG (fx:=fx) (p:=p) r 0
  split
  ·simp only[List.length_cons];omega
  ·split
   ·simp only[List.length_cons];omega
   ·simp
section
variable {μ:Mu}{l i:Nat}{s:List UInt8}{fx:Bool}{r:List LV}
theorem jr {p:UInt8→Bool}{n:Nat}(hn:n≤s.length):runE fx p s n≤s.length:=by
 have:=(vG (fx:=fx) (p:=p) (s.drop n) 0).2
 rw[List.length_drop]at this
 unfold runE
 omega
theorem jR {p:UInt8→Bool}{n:Nat}:(cK fx p s n).length≤s.length:=by
 have:=(vG (fx:=fx) (p:=p) (s.drop n) 0).1
 rw[List.length_drop]at this
 unfold cK
 omega
theorem lU {c:UInt8}(h:bh c=true):c.toNat<128:=by
 simp only[bh,Bool.or_eq_true,Bool.and_eq_true,decide_eq_true_eq]at h
 omega
theorem Wy {n:Nat}:Lib.toUpperD (cK fx bh s n)=(cK fx bh s n).map upB:=lN _ fun b hb=>lU (og b hb)
theorem S6:(ev E).call 92 [] μ=some (.ret (LV.osl (bN cL)) μ):=aJ (by rw[Zt];rfl)
theorem Lh:(ev E).call 93 [] μ=some (.ret (LV.osl (bN bV)) μ):=aJ (by rw[Zu];rfl)
def dG (fx:Bool)(s:List UInt8)(n:Nat):List UInt8:=[46]++up (cK fx bh s (atE fx s n))++[46]
def dotEnd (fx:Bool)(s:List UInt8)(n:Nat):Nat:=atE fx s (runE fx bh s (atE fx s n))
def m9 (fx:Bool)(s:List UInt8)(n:Nat):Bool:=decide (atC fx s (runE fx bh s (atE fx s n))=46)&&(cL.contains (dG fx s n)||decide (dG fx s n=gl)||decide (dG fx s n=eT))
def cI (fx:Bool)(s:List UInt8)(n:Nat):List UInt8×Nat×Bool:=if atC fx s n=46 then(dG fx s n,dotEnd fx s n,m9 fx s n)else([],n,false)
theorem cq {c:UInt8}{k:Nat}(hk:k<256):decide ((c.toNat:Int)=(k:Int))=decide (c=UInt8.ofNat k):=by
 have h2:(UInt8.ofNat k).toNat=k:=by simp[hk]
 by_cases h:c=UInt8.ofNat k
 ·subst h
  rw[h2];simp
 ·have h1:c.toNat≠k:=fun e=>h (UInt8.toNat.inj (by rw[e,h2]))
  simp only[h,decide_false,decide_eq_false_iff_not]
  omega
theorem OX (h:Sc μ l i s fx r)(hs:s.length≤200000){n:Nat}(hn:n≤s.length):
  (ev E).call 193 [LV.cv (CV.ref l i 0),LV.int .i64 (n:Int)] μ=some (.ret (.ltup [LV.str (cI fx s n).1,LV.int .i64 ((cI fx s n).2.1:Nat),LV.bool (cI fx s n).2.2]) μ):=by
 refine aJ ?_
 rw[XN,iU h (by omega) hn]
 have e46: ∀c:UInt8,decide ((c.toNat:Int)=46)=decide (c=46):=fun c=>cq (k:=46) (by omega)
 simp only[ad,ao,aa,ak,am,ah,ae,aj,aA,cond_true,cond_false,Bool.not_true,Bool.not_false,av,au,aq,e46]
 by_cases hc:atC fx s n=46
 ·have hle:=ii (fx:=fx) hn
  have hle2:=jr (fx:=fx) (p:=bh) hle
  have hr:=jR (fx:=fx) (s:=s) (p:=bh) (n:=atE fx s n)
  have hu:(Lib.toUpperD (cK fx bh s (atE fx s n))).length≤s.length:=by rw[Wy,List.length_map];exact hr
  have hG:MV (ev E) l i (atE fx s n:Nat) μ=some (gX (dG fx s n) (dotEnd fx s n:Nat) (m9 fx s n) μ):=by
   refine aR ?_
   rw[RH,qa h (by omega) (fun c=>yS) hle]
   simp only[ad,ao,aa,ak,am,ah,ae,aj,aA,cond_true,cond_false,Bool.not_true,Bool.not_false,av,au,aq]
   rw[iU h (by omega) hle2]
   simp only[ad,ao,aa,ak,am,ah,ae,aj,aA,cond_true,cond_false,Bool.not_true,Bool.not_false,av,au,aq]
   rw[D3 (by omega)]
   simp only[ad,ao,aa,ak,am,ah,ae,aj,aA,cond_true,cond_false,Bool.not_true,Bool.not_false,av,au,aq]
   rw[bJ (by simp;omega),bJ (by simp;omega)]
   simp only[ad,ao,aa,ak,am,ah,ae,aj,aA,cond_true,cond_false,Bool.not_true,Bool.not_false,av,au,aq,S6]
   rw[yU (l:=cL) (by decide)]
   simp only[ad,ao,aa,ak,am,ah,ae,aj,aA,cond_true,cond_false,Bool.not_true,Bool.not_false,av,au,aq,e46]
   have ht:[46]++Lib.toUpperD (cK fx bh s (atE fx s n))++[46]=dG fx s n:=rfl
   have h3:([46,84,82,85,69,46]:List UInt8)=gl:=rfl
   have h4:([46,70,65,76,83,69,46]:List UInt8)=eT:=rfl
   rw[ht,h3,h4]
   unfold m9
   have he:atE fx s (runE fx bh s (atE fx s n))=dotEnd fx s n:=rfl
   rw[he]
   cases cL.contains (dG fx s n)<;>cases decide (dG fx s n=gl)<;>cases decide (atC fx s (runE fx bh s (atE fx s n))=46)<;>simp
  rw[hG]
  simp only[hc,decide_true,ad,ao,aa,ak,am,ah,ae,aj,aA,cond_true,cond_false,Bool.not_true,Bool.not_false,av,au,aq,GS,cI,if_true]
 ·simp only[hc,decide_false,ad,ao,aa,ak,am,ah,ae,aj,aA,cond_true,cond_false,Bool.not_true,Bool.not_false,av,au,aq,cI,if_false]
end
end Go.Abs
set_option linter.unusedVariables false
set_option linter.unusedSimpArgs false
set_option maxRecDepth 100000
namespace Go.Abs
open Go Go.Proofs
section
variable {μ:Mu}{l i:Nat}{s:List UInt8}{fx:Bool}{r:List LV}
theorem F1: ∀i:Fin 256,IntKind.wrap .u8 ((BitVec.ofInt (IntKind.bits .u8) (i.val:Int) &&& ~~~BitVec.ofInt (IntKind.bits .u8) (32:Int)).toNat:Int)=(((UInt8.ofNat i.val) &&& 223).toNat:Int):=by decide
theorem TH (c:UInt8):IntKind.wrap .u8 ((BitVec.ofInt (IntKind.bits .u8) (c.toNat:Int) &&& ~~~BitVec.ofInt (IntKind.bits .u8) (32:Int)).toNat:Int)=((c &&& 223).toNat:Int):=by
 have:=F1 ⟨c.toNat,c.toNat_lt⟩
 simpa using this
def dw (fx:Bool)(s:List UInt8)(n:Nat):UInt8:=atC fx s n &&& 223
def dH (fx:Bool)(s:List UInt8)(n:Nat):List UInt8:=if atC fx s (atE fx s n)=45 then [45]else []
def expStart (fx:Bool)(s:List UInt8)(n:Nat):Nat:=if atC fx s (atE fx s n)=43∨atC fx s (atE fx s n)=45 then atE fx s (atE fx s n)else atE fx s n
def bc (fx:Bool)(s:List UInt8)(n:Nat):List UInt8:=cK fx aL s (expStart fx s n)
def bg (fx:Bool)(s:List UInt8)(n:Nat):UInt8×List UInt8×Nat×Bool:=
 if dw fx s n=69∨dw fx s n=68 then(dw fx s n,dH fx s n++bc fx s n,runE fx aL s (expStart fx s n),!decide (bc fx s n=[]))else(0,[],n,false)
theorem VH (h:Sc μ l i s fx r)(hs:s.length≤200000){n:Nat}(hn:n≤s.length):
  (ev E).call 208 [LV.cv (CV.ref l i 0),LV.int .i64 (n:Int)] μ=some (.ret (.ltup [LV.int .u8 ((bg fx s n).1.toNat:Int),LV.str (bg fx s n).2.1,LV.int .i64 ((bg fx s n).2.2.1:Nat),LV.bool (bg fx s n).2.2.2]) μ):=by
 have e69: ∀c:UInt8,decide ((c.toNat:Int)=69)=decide (c=69):=fun c=>cq (k:=69) (by omega)
 have e68: ∀c:UInt8,decide ((c.toNat:Int)=68)=decide (c=68):=fun c=>cq (k:=68) (by omega)
 have e43: ∀c:UInt8,decide ((c.toNat:Int)=43)=decide (c=43):=fun c=>cq (k:=43) (by omega)
 have e45: ∀c:UInt8,decide ((c.toNat:Int)=45)=decide (c=45):=fun c=>cq (k:=45) (by omega)
 have hle:=ii (fx:=fx) hn
 have hle2:=ii (fx:=fx) hle
 have hst:expStart fx s n≤s.length:=by unfold expStart;split<;>assumption
 have hr:=jR (fx:=fx) (s:=s) (p:=aL) (n:=expStart fx s n)
 have hG: ∀(sg:List UInt8),sg.length≤1→nn (ev E) l i ((dw fx s n).toNat:Int) (expStart fx s n:Nat) sg μ=some (qI ((dw fx s n).toNat:Int) (sg++bc fx s n) (runE fx aL s (expStart fx s n):Nat) (!decide (bc fx s n=[])) μ):=by
  intro sg hsg
  refine aR ?_
  rw[PL,qa h (by omega) (fun c=>mA) hst]
  simp only[ad,ao,aa,ak,am,ah,ae,aj,aA,cond_true,cond_false,Bool.not_true,Bool.not_false,av,au,aq]
  rw[bJ (by omega)]
  rfl
 have hG5:Cy (ev E) l i ((dw fx s n).toNat:Int) (atE fx s n:Nat) μ=some (sY ((dw fx s n).toNat:Int) (dH fx s n++bc fx s n) (runE fx aL s (expStart fx s n):Nat) (!decide (bc fx s n=[])) μ):=by
  refine aR ?_
  rw[RL,iU h (by omega) hle]
  simp only[ad,ao,aa,ak,am,ah,ae,aj,aA,cond_true,cond_false,Bool.not_true,Bool.not_false,av,au,aq,e43,e45]
  by_cases h1:atC fx s (atE fx s n)=43
  ·have hx:expStart fx s n=atE fx s (atE fx s n):=by simp[expStart,h1]
   have hg:dH fx s n=[]:=by simp[dH,h1]
   have:=hG [] (by simp)
   rw[hx]at this
   simp only[h1,decide_true,ad,ao,aa,ak,am,ah,ae,aj,aA,cond_true,cond_false,Bool.not_true,Bool.not_false,av,au,aq,hg]
   have h2:decide ((43:UInt8)=45)=false:=by decide
   rw[h2,cond_false,this,aa,nZ,hx]
  ·by_cases h2:atC fx s (atE fx s n)=45
   ·have hx:expStart fx s n=atE fx s (atE fx s n):=by simp[expStart,h2]
    have hg:dH fx s n=[45]:=by simp[dH,h2]
    have:=hG [45] (by simp)
    rw[hx]at this
    have h3:decide ((45:UInt8)=43)=false:=by decide
    simp only[h2,h3,decide_true,ad,ao,aa,ak,am,ah,ae,aj,aA,cond_true,cond_false,Bool.not_true,Bool.not_false,av,au,aq,hg]
    rw[this,aa,nZ,hx]
   ·have hx:expStart fx s n=atE fx s n:=by simp[expStart,h1,h2]
    have hg:dH fx s n=[]:=by simp[dH,h2]
    have:=hG [] (by simp)
    rw[hx]at this
    simp only[h1,h2,decide_false,ad,ao,aa,ak,am,ah,ae,aj,aA,cond_true,cond_false,Bool.not_true,Bool.not_false,av,au,aq,hg]
    rw[this,aa,nZ,hx]
 refine aJ ?_
 rw[XT,iU h (by omega) hn]
 simp only[ad,ao,aa,ak,am,ah,ae,aj,aA,cond_true,cond_false,Bool.not_true,Bool.not_false,av,au,aq,TH]
 have hL:atC fx s n &&& 223=dw fx s n:=rfl
 rw[hL]
 simp only[e69,e68]
 by_cases h1:dw fx s n=69
 ·have:bg fx s n=(dw fx s n,dH fx s n++bc fx s n,runE fx aL s (expStart fx s n),!decide (bc fx s n=[])):=by simp[bg,h1]
  rw[this,hG5]
  simp only[h1,decide_true,ad,ao,aa,ak,am,ah,ae,aj,aA,cond_true,cond_false,Bool.not_true,Bool.not_false,av,au,aq]
  rw[←h1,we]
 ·by_cases h2:dw fx s n=68
  ·have:bg fx s n=(dw fx s n,dH fx s n++bc fx s n,runE fx aL s (expStart fx s n),!decide (bc fx s n=[])):=by simp[bg,h2]
   rw[this,hG5]
   have h3:decide ((68:UInt8)=69)=false:=by decide
   simp only[h2,h3,decide_true,ad,ao,aa,ak,am,ah,ae,aj,aA,cond_true,cond_false,Bool.not_true,Bool.not_false,av,au,aq]
   rw[←h2,we]
  ·have:bg fx s n=(0,[],n,false):=by simp[bg,h1,h2]
   rw[this]
   simp only[h1,h2,decide_false,ad,ao,aa,ak,am,ah,ae,aj,aA,cond_true,cond_false,Bool.not_true,Bool.not_false,av,au,aq]
   rfl
structure Tok where
 kind:Int
 type:Int
 text:List UInt8
 deriving DecidableEq
def Tok.cv (t:Tok):CV:=CV.agg [CV.int .i64 t.kind,CV.int .i64 t.type,CV.str t.text]
def iG (e:Int):CV:=CV.iface 191 (CV.agg [CV.int .i64 e])
theorem kU {e:Int}:(ev E).call 191 [LV.int .i64 e] μ=some (.panic (iG e) μ):=aJ (by rw[XL];rfl)
def bR (s:List UInt8):List UInt8:=if s=[]then [48]else s
def dU (s:List UInt8):List UInt8:=Lib.trimLeftB s 48
def dV (s:List UInt8):List UInt8:=Lib.trimRightB s 48
theorem TT {t:List UInt8}:(ev E).call 212 [LV.str t,LV.bool true] μ=some (.ret (LV.str (bR (dU t))) μ):=by
 refine aJ ?_
 rw[Tb,O3 (by decide)]
 simp only[ad,ao,aa,ak,am,ah,ae,aj,aA,cond_true,cond_false,Bool.not_true,Bool.not_false,av,au,aq,bR,dU]
 by_cases h:Lib.trimLeftB t 48=[]<;>simp[h]
theorem TU {t:List UInt8}(ht:t.length≤1000000):(ev E).call 212 [LV.str t,LV.bool false] μ=some (.ret (LV.str (bR (dV t))) μ):=by
 refine aJ ?_
 rw[Tb,O4 (by decide) ht]
 simp only[ad,ao,aa,ak,am,ah,ae,aj,aA,cond_true,cond_false,Bool.not_true,Bool.not_false,av,au,aq,bR,dV]
 by_cases h:Lib.trimRightB t 48=[]<;>simp[h]
theorem BK (t:List UInt8):(dU t).length≤t.length:=by
 unfold dU Lib.trimLeftB
 exact(List.dropWhile_suffix _).length_le
theorem BL (t:List UInt8):(dV t).length≤t.length:=by
 unfold dV Lib.trimRightB
 rw[List.length_reverse]
 exact Nat.le_trans (List.dropWhile_suffix _).length_le (by simp)
theorem VJ {a b:List UInt8}(ha:a.length≤1000000)(hb:b.length≤1000000):(ev E).call 210 [LV.str a,LV.str b] μ=some (.ret (LV.int .i64 ((dU a).length+(dV b).length:Nat)) μ):=by
 refine aJ ?_
 rw[XV,O3 (by decide)]
 simp only[ad,ao,aa,ak,am,ah,ae,aj,aA,cond_true,cond_false,Bool.not_true,Bool.not_false,av,au,aq]
 rw[O4 (by decide) hb]
 simp only[ad,ao,aa,ak,am,ah,ae,aj,aA,cond_true,cond_false,Bool.not_true,Bool.not_false,av,au,aq]
 have h1:=BK a
 have h2:=BL b
 have e1:Lib.trimLeftB a 48=dU a:=rfl
 have e2:Lib.trimRightB b 48=dV b:=rfl
 rw[e1,e2,bB (by omega) (by omega)]
 simp
def dh (s:List UInt8):Int:=match Lib.atoiAll s with| .ok v=>v| .range=>Lib.atoiSat s|_=>0
def lO (s:List UInt8):Bool:=match Lib.atoiAll s with| .ok _=>true|_=>false
def B6 (s:List UInt8):CV:=match lO s with|true=> .v .nilIface|false=> .iface 201 .undef
theorem re (s:List UInt8):yh 201 s= .ltup [LV.int .i64 (dh s),.cv (B6 s)]:=by
 unfold yh B6 dh lO
 cases Lib.atoiAll s<;>rfl
theorem Mi (s:List UInt8):Cg (.cv (B6 s))=some (lO s):=by
 unfold B6
 cases lO s<;>rfl
theorem jA (s:List UInt8): -9223372036854775808≤dh s∧dh s≤9223372036854775807:=by
 unfold dh
 split
 ·rename_i v h
  unfold Lib.atoiAll at h
  cases s with
  |nil=>cases h
  |cons c r=>
   simp only at h
   split at h
   ·cases h
   ·cases h
   ·rename_i u hu
    split at h
    ·cases h
    ·rename_i h1
     split at h
     ·cases h
     ·rename_i h2
      injection h with h
      subst h
      split<;>omega
 ·unfold Lib.atoiSat
  split<;>omega
 ·omega
theorem j8 {c:CV}:bP (.cv c)=some c:=rfl
def Wk (μ:Mu):Except Int Tok→Out
 | .ok t=> .ret (.cv t.cv) μ
 | .error e=> .panic (iG e) μ
def cX (d:List UInt8):Except Int Tok:=if 10<d.length∨lO d=false∨2147483647<dh d then .error 28 else .ok ⟨1,0,Lib.itoa (dh d)⟩
theorem FT {n:Nat}{e:Int}:below n (iG e)=true:=rfl
theorem VI {d:List UInt8}(hd:d.length≤1000000):(ev E).call 209 [LV.str d] μ=some (Wk μ (cX d)):=by
 refine aJ ?_
 rw[XU,yR hd,re]
 have hr:=jA d
 simp only[ad,ao,aa,ak,am,ah,ae,aj,aA,cond_true,cond_false,Bool.not_true,Bool.not_false,av,au,aq,j8,kU,ep,FT]
 by_cases h1:10<d.length
 ·have e1:decide ((10:Int)<(d.length:Int))=true:=by simp;omega
  have e2:cX d= .error 28:=by simp[cX,h1]
  rw[e1,e2,cond_true]
  rfl
 ·have e1:decide ((10:Int)<(d.length:Int))=false:=by simp;omega
  rw[e1,cond_false,Mi,aa]
  cases h2:lO d with
  |false=>
   have e2:cX d= .error 28:=by simp[cX,h2]
   rw[e2];rfl
  |true=>
   simp only[ad,ao,aa,ak,am,ah,ae,aj,aA,cond_true,cond_false,Bool.not_true,Bool.not_false,av,au,aq]
   by_cases h3:2147483647<dh d
   ·have e2:cX d= .error 28:=by simp[cX,h3]
    have e3:decide (2147483647<dh d)=true:=by simp[h3]
    rw[e2,e3];rfl
   ·have e2:cX d= .ok ⟨1,0,Lib.itoa (dh d)⟩:=by simp[cX,h1,h2,h3]
    have e3:decide (2147483647<dh d)=false:=by simp[h3]
    rw[e2,e3,cond_false,OY hr.1 hr.2]
    rfl
end
end Go.Abs
set_option linter.unusedVariables false
set_option linter.unusedSimpArgs false
set_option maxRecDepth 100000
namespace Go.Abs
open Go Go.Proofs
def uM (μ:Mu):Except Int (Tok×Nat)→Out
 | .ok q=> .ret (.ltup [.cv q.1.cv,LV.int .i64 (q.2:Int)]) μ
 | .error e=> .panic (iG e) μ
def gu (whole part:List UInt8):List UInt8:=bR (dU whole)++[46]++bR (dV part)
def gC (digits:List UInt8)(ok:Bool):List UInt8:=if ok then Lib.itoa (dh digits)else [48]
def eG (text pow:List UInt8)(letter:UInt8)(ok:Bool):Tok:=
 if letter=68∧ok=true then⟨1,2,text++[68]++pow⟩else if pow=[48]then⟨1,1,text⟩else⟨1,1,text++([69]++pow)⟩
def ql (whole part digits:List UInt8)(ok:Bool):Bool:=decide (30<(dU whole).length+(dV part).length)||(decide (3<(Lib.trimPrefix digits [45]).length)&&ok)
def gt (whole part digits:List UInt8)(letter:UInt8)(ok:Bool)(e:Nat):Except Int (Tok×Nat):=
 if ql whole part digits ok then .error 7 else .ok (eG (gu whole part) (gC digits ok) letter ok,e)
def cx (fx:Bool)(s:List UInt8)(n:Nat):List UInt8:=cK fx aL s n
def dy (fx:Bool)(s:List UInt8)(n:Nat):Bool:=decide (atC fx s (runE fx aL s n)=46)&&(!(cI fx s (runE fx aL s n)).2.2||decide (cx fx s n=[]))
def fO (fx:Bool)(s:List UInt8)(n:Nat):List UInt8:=if dy fx s n then cK fx aL s (atE fx s (runE fx aL s n))else []
def numEnd (fx:Bool)(s:List UInt8)(n:Nat):Nat:=if dy fx s n then runE fx aL s (atE fx s (runE fx aL s n))else runE fx aL s n
def ez (fx:Bool)(s:List UInt8)(n:Nat):Except Int (Tok×Nat):=
 let q:=bg fx s (numEnd fx s n)
 if !dy fx s n&& !q.2.2.2 then(match cX (cx fx s n)with| .ok t=> .ok (t,numEnd fx s n)| .error e=> .error e)
 else gt (cx fx s n) (fO fx s n) q.2.1 q.1 q.2.2.2 (if q.2.2.2 then q.2.2.1 else numEnd fx s n)
def stT (μ:Mu)(xr:Int→Int→Int→List UInt8→Mu→St)(xp:CV→Mu→St):Except Int (Tok×Nat)→St
 | .ok q=>xr (q.2:Int) q.1.kind q.1.type q.1.text μ
 | .error e=>xp (iG e) μ
section
variable {μ:Mu}{l i:Nat}{s:List UInt8}{fx:Bool}{r:List LV}
theorem X1 {e:Nat}{text pow:List UInt8}{a b:Int}{c:List UInt8}(h:text.length+pow.length≤1000000):
  zY (ev E) (e:Int) text pow a b c μ=some (m3 (e:Int) 1 1 (if pow=[48]then text else text++([69]++pow)) μ):=by
 refine aR ?_
 rw[PI]
 by_cases hp:pow=[48]
 ·have:decide (pow=[48])=true:=by simp[hp]
  rw[this,if_pos hp];rfl
 ·have:decide (pow=[48])=false:=by simp[hp]
  rw[this,if_neg hp]
  simp only[ad,ao,aa,ak,am,ah,ae,aj,aA,cond_true,cond_false,Bool.not_true,Bool.not_false,av,au,aq]
  rw[bJ (by simp;omega),bJ (by simp;omega)]
  simp only[ad,ao,aa,ak,am,ah,ae,aj,aA,cond_true,cond_false,Bool.not_true,Bool.not_false,av,au,aq]
theorem Tk {e:Nat}{letter:UInt8}{ok:Bool}{text pow:List UInt8}{a b:Int}{c:List UInt8}(h:text.length+pow.length≤1000000):
  zX (ev E) (e:Int) (letter.toNat:Int) ok text pow a b c μ=some (m0 (e:Int) (eG text pow letter ok).kind (eG text pow letter ok).type (eG text pow letter ok).text μ):=by
 have e68:decide ((letter.toNat:Int)=68)=decide (letter=68):=cq (k:=68) (by omega)
 refine aR ?_
 rw[PH,e68,X1 h,aa,EU]
 by_cases hl:letter=68
 ·cases ok with
  |true=>
   have:eG text pow letter true=⟨1,2,text++[68]++pow⟩:=by simp[eG,hl]
   rw[this]
   simp only[hl,decide_true,ad,ao,aa,ak,am,ah,ae,aj,aA,cond_true,cond_false,Bool.not_true,Bool.not_false,av,au,aq]
   rw[bJ (by simp;omega),bJ (by simp;omega)]
   simp only[ad,ao,aa,ak,am,ah,ae,aj,aA,cond_true,cond_false,Bool.not_true,Bool.not_false,av,au,aq]
  |false=>
   simp only[hl,decide_true,ad,ao,aa,ak,am,ah,ae,aj,aA,cond_true,cond_false,Bool.not_true,Bool.not_false,av,au,aq]
   by_cases hp:pow=[48]<;>simp[eG,hp]
 ·simp only[hl,decide_false,ad,ao,aa,ak,am,ah,ae,aj,aA,cond_true,cond_false,Bool.not_true,Bool.not_false,av,au,aq]
  by_cases hp:pow=[48]<;>simp[eG,hp,hl]
theorem jo (t:List UInt8):(bR t).length≤t.length+1:=by
 unfold bR
 split<;>simp
theorem XZ {e:Nat}{letter:UInt8}{ok:Bool}{whole part digits:List UInt8}{a b:Int}{c:List UInt8}(h1:whole.length≤200000)(h2:part.length≤200000)(h3:digits.length≤200001)(h4:(gC digits ok).length≤100):
  pD (ev E) (e:Int) whole part (letter.toNat:Int) digits ok a b c μ=some (qG (e:Int) (eG (gu whole part) (gC digits ok) letter ok).kind (eG (gu whole part) (gC digits ok) letter ok).type (eG (gu whole part) (gC digits ok) letter ok).text μ):=by
 refine aR ?_
 have k1:=BK whole
 have k2:=BL part
 have k3:=jo (dU whole)
 have k4:=jo (dV part)
 rw[PG,TT]
 simp only[ad,ao,aa,ak,am,ah,ae,aj,aA,cond_true,cond_false,Bool.not_true,Bool.not_false,av,au,aq]
 rw[bJ (by simp;omega)]
 simp only[ad,ao,aa,ak,am,ah,ae,aj,aA,cond_true,cond_false,Bool.not_true,Bool.not_false,av,au,aq]
 rw[TU (by omega)]
 simp only[ad,ao,aa,ak,am,ah,ae,aj,aA,cond_true,cond_false,Bool.not_true,Bool.not_false,av,au,aq]
 rw[bJ (by simp;omega)]
 have ht:bR (dU whole)++[46]++bR (dV part)=gu whole part:=rfl
 have hl:(gu whole part).length≤400003:=by rw[←ht];simp;omega
 cases ok with
 |true=>
  have hr:=jA digits
  simp only[ad,ao,aa,ak,am,ah,ae,aj,aA,cond_true,cond_false,Bool.not_true,Bool.not_false,av,au,aq,yR (show digits.length≤1000000 by omega),re,j8,OY hr.1 hr.2]
  have hp:Lib.itoa (dh digits)=gC digits true:=rfl
  rw[hp,ht,Tk (by omega),aa,uH]
 |false=>
  simp only[ad,ao,aa,ak,am,ah,ae,aj,aA,cond_true,cond_false,Bool.not_true,Bool.not_false,av,au,aq]
  have hp:([48]:List UInt8)=gC digits false:=rfl
  rw[hp,ht,Tk (by omega),aa,uH]
theorem AI (a b:List UInt8):(Lib.trimPrefix a b).length≤a.length:=Lib.trimPrefix_le a b
theorem Th {e:Nat}{letter:UInt8}{ok:Bool}{whole part digits:List UInt8}{a b:Int}{c:List UInt8}(h1:whole.length≤200000)(h2:part.length≤200000)(h3:digits.length≤200001)(h4:(gC digits ok).length≤100):
  zW (ev E) (e:Int) whole part (letter.toNat:Int) digits ok a b c μ=some (stT μ qF jc (gt whole part digits letter ok e)):=by
 refine aR ?_
 rw[PF,VJ (by omega) (by omega)]
 simp only[ad,ao,aa,ak,am,ah,ae,aj,aA,cond_true,cond_false,Bool.not_true,Bool.not_false,av,au,aq,kU,ep,VK]
 have k0:=AI digits [45]
 have e30:decide ((30:Int)<(((dU whole).length+(dV part).length:Nat):Int))=decide (30<(dU whole).length+(dV part).length):=by simp;omega
 have e3:decide ((3:Int)<((Lib.trimPrefix digits [45]).length:Int))=decide (3<(Lib.trimPrefix digits [45]).length):=by simp;omega
 rw[e30,e3,XZ h1 h2 h3 h4,aa,ET]
 unfold gt ql
 cases decide (30<(dU whole).length+(dV part).length)<;>cases decide (3<(Lib.trimPrefix digits [45]).length)<;>cases ok<;>rfl
theorem XY {e x:Nat}{letter:UInt8}{ok:Bool}{whole part digits:List UInt8}{a b:Int}{c:List UInt8}(h1:whole.length≤200000)(h2:part.length≤200000)(h3:digits.length≤200001)(h4:(gC digits ok).length≤100):
  zV (ev E) (e:Int) whole part (letter.toNat:Int) digits (x:Int) ok a b c μ=some (stT μ mX mY (gt whole part digits letter ok (if ok then x else e))):=by
 refine aR ?_
 rw[PE]
 cases ok with
 |true=>
  rw[cond_true,Th h1 h2 h3 h4,aa]
  simp only[if_true]
  cases gt whole part digits letter true x with
  |ok q=>exact uF _ _ _ _ _ _
  |error e=>exact uG _ _ _
 |false=>
  rw[cond_false,Th h1 h2 h3 h4,aa]
  simp only[Bool.false_eq_true,if_false]
  cases gt whole part digits letter false e with
  |ok q=>exact uF _ _ _ _ _ _
  |error e=>exact uG _ _ _
theorem ef {β:Type}{t:Tok}{k:Int→Int→List UInt8→Option β}:ig (.cv t.cv) k=k t.kind t.type t.text:=rfl
theorem ZE (h:Sc μ l i s fx r)(hs:s.length≤200000){whole part:List UInt8}{dot:Bool}{n:Nat}(hn:n≤s.length)(h1:whole.length≤200000)(h2:part.length≤200000)(h3:(bg fx s n).2.1.length≤200001)(h4:(gC (bg fx s n).2.1 (bg fx s n).2.2.2).length≤100):
  pE (ev E) l i (n:Int) whole part dot 0 0 [] μ=some (stT μ jY iJ (if !dot&& !(bg fx s n).2.2.2 then(match cX whole with| .ok t=> .ok (t,n)| .error e=> .error e)else gt whole part (bg fx s n).2.1 (bg fx s n).1 (bg fx s n).2.2.2 (if(bg fx s n).2.2.2 then(bg fx s n).2.2.1 else n))):=by
 refine aR ?_
 rw[RG,VH h hs hn]
 simp only[ad,ao,aa,ak,am,ah,ae,aj,aA,cond_true,cond_false,Bool.not_true,Bool.not_false,av,au,aq]
 rw[XY h1 h2 h3 h4,aa,VI (by omega)]
 have hreal:kS (ev E) cY [] [(4,0),(5,0)] (stT μ mX mY (gt whole part (bg fx s n).2.1 (bg fx s n).1 (bg fx s n).2.2.2 (if(bg fx s n).2.2.2 then(bg fx s n).2.2.1 else n)))=
   some (stT μ jY iJ (gt whole part (bg fx s n).2.1 (bg fx s n).1 (bg fx s n).2.2.2 (if(bg fx s n).2.2.2 then(bg fx s n).2.2.1 else n))):=by
  cases gt whole part (bg fx s n).2.1 (bg fx s n).1 (bg fx s n).2.2.2 (if(bg fx s n).2.2.2 then(bg fx s n).2.2.1 else n)with
  |ok q=>exact ER _ _ _ _ _ _
  |error e=>exact ES _ _ _
 rw[hreal]
 cases dot with
 |true=>rfl
 |false=>
  cases (bg fx s n).2.2.2 with
  |true=>rfl
  |false=>
   simp only[ad,ao,aa,ak,am,ah,ae,aj,aA,cond_true,cond_false,Bool.not_true,Bool.not_false,av,au,aq,Bool.and_self,if_true]
   cases cX whole with
   |ok t=>simp only[Wk,ad,ef];rfl
   |error e=>rfl
theorem P3 (digits:List UInt8)(ok:Bool):(gC digits ok).length≤100:=by
 have hr:=jA digits
 have:=Lib.itoa_length_le _ hr.1 hr.2
 unfold gC
 split
 ·omega
 ·simp
theorem OW (h:Sc μ l i s fx r)(hs:s.length≤200000){n:Nat}(hn:n≤s.length):
  (ev E).call 192 [LV.cv (CV.ref l i 0),LV.int .i64 (n:Int)] μ=some (uM μ (ez fx s n)):=by
 have e46: ∀c:UInt8,decide ((c.toNat:Int)=46)=decide (c=46):=fun c=>cq (k:=46) (by omega)
 have hle:=jr (fx:=fx) (p:=aL) hn
 have hle2:=ii (fx:=fx) hle
 have hle3:=jr (fx:=fx) (p:=aL) hle2
 have hr1:=jR (fx:=fx) (s:=s) (p:=aL) (n:=n)
 have hr2:=jR (fx:=fx) (s:=s) (p:=aL) (n:=atE fx s (runE fx aL s n))
 have hx: ∀m,(bg fx s m).2.1.length≤200001:=by
  intro m
  unfold bg
  split
  ·have:=jR (fx:=fx) (s:=s) (p:=aL) (n:=expStart fx s m)
   simp only[List.length_append,dH,bc]
   split<;>simp<;>omega
  ·simp
 have fin: ∀q:Except Int (Tok×Nat),kB (ev E) 192 cY [] (stT μ jY iJ q)=some (uM μ q):=by
  intro q
  cases q with
  |ok q=>exact GQ _ _ _ _ _ _
  |error e=>
   simp only[stT]
   rw[GR]
   rfl
 have hend:numEnd fx s n≤s.length:=by unfold numEnd;split<;>assumption
 have key: ∀(dot:Bool),dy fx s n=dot→(opt (pE (ev E) l i (numEnd fx s n:Nat) (cx fx s n) (fO fx s n) dot 0 0 [] μ) (kB (ev E) 192 cY []))=some (uM μ (ez fx s n)):=by
  intro dot hd
  rw[ZE h hs hend (by unfold cx;omega) (by unfold fO;split<;>first|omega|simp) (hx _) (P3 _ _),aa,fin]
  unfold ez
  rw[hd]
 refine aJ ?_
 rw[XM,qa h (by omega) (fun c=>mA) hn]
 simp only[ad,ao,aa,ak,am,ah,ae,aj,aA,cond_true,cond_false,Bool.not_true,Bool.not_false,av,au,aq]
 rw[iU h (by omega) hle]
 simp only[ad,ao,aa,ak,am,ah,ae,aj,aA,cond_true,cond_false,Bool.not_true,Bool.not_false,av,au,aq,e46]
 have hw:cK fx aL s n=cx fx s n:=rfl
 by_cases hc:atC fx s (runE fx aL s n)=46
 ·have hc':decide (atC fx s (runE fx aL s n)=46)=true:=by simp[hc]
  rw[hc',cond_true,OX h hs hle]
  simp only[ad,ao,aa,ak,am,ah,ae,aj,aA,cond_true,cond_false,Bool.not_true,Bool.not_false,av,au,aq]
  rw[qa h (by omega) (fun c=>mA) hle2]
  simp only[ad,ao,aa,ak,am,ah,ae,aj,aA,cond_true,cond_false,Bool.not_true,Bool.not_false,av,au,aq]
  cases hdo:(cI fx s (runE fx aL s n)).2.2 with
  |false=>
   have hd:dy fx s n=true:=by simp[dy,hc,hdo]
   have:=key true hd
   simp only[numEnd,fO,hd,if_true]at this
   simp only[ad,ao,aa,ak,am,ah,ae,aj,aA,cond_true,cond_false,Bool.not_true,Bool.not_false,av,au,aq,hw]
   exact this
  |true=>
   simp only[ad,ao,aa,ak,am,ah,ae,aj,aA,cond_true,cond_false,Bool.not_true,Bool.not_false,av,au,aq,hw]
   by_cases hz:cx fx s n=[]
   ·have hd:dy fx s n=true:=by simp[dy,hc,hz]
    have:=key true hd
    simp only[numEnd,fO,hd,if_true]at this
    have h5:decide (cx fx s n=[])=true:=by simp[hz]
    rw[h5,cond_true]
    exact this
   ·have hd:dy fx s n=false:=by simp[dy,hdo,hz]
    have:=key false hd
    simp only[numEnd,fO,hd,Bool.false_eq_true,if_false]at this
    have h5:decide (cx fx s n=[])=false:=by simp[hz]
    rw[h5,cond_false]
    exact this
 ·have hc':decide (atC fx s (runE fx aL s n)=46)=false:=by simp[hc]
  have hd:dy fx s n=false:=by simp[dy,hc]
  have:=key false hd
  simp only[numEnd,fO,hd,Bool.false_eq_true,if_false]at this
  rw[hc',cond_false,hw]
  exact this
end
end Go.Abs
set_option linter.unusedVariables false
set_option linter.unusedSimpArgs false
namespace Go.Abs
open Go
def cV (q:UInt8):List UInt8→Option (List UInt8×Nat)
 |[]=>none
 |[c]=>if c=q then some ([],1)else none
 |c::d::r=>if c=q then(if d=q then(cV q r).map (fun x=>(q::x.1,x.2+2))else some ([],1))else(cV q (d::r)).map fun x=>(c::x.1,x.2+1)
theorem rP {q c:UInt8}(h:c≠q)(r:List UInt8):cV q (c::r)=(cV q r).map fun x=>(c::x.1,x.2+1):=by
 cases r with
 |nil=>simp[cV,h]
 |cons d r=>rw[cV,if_neg h]
theorem uR {q:UInt8}(r:List UInt8):cV q (q::q::r)=(cV q r).map fun x=>(q::x.1,x.2+2):=by
 rw[cV,if_pos rfl,if_pos rfl]
theorem mG {q:UInt8}{r:List UInt8}(h: ∀d t,r=d::t→d≠q):cV q (q::r)=some ([],1):=by
 cases r with
 |nil=>simp[cV]
 |cons d r=>rw[cV,if_pos rfl,if_neg (h d r rfl)]
theorem Bt {q:UInt8}: ∀(a l:List UInt8),(∀b∈a,b≠q)→cV q (a++l)=(cV q l).map fun x=>(a++x.1,a.length+x.2)
 |[],l,_=>by
  simp only[List.nil_append,List.length_nil,Nat.zero_add]
  cases cV q l<;>rfl
 |c::a,l,h=>by
  rw[List.cons_append,rP (h c List.mem_cons_self),Bt a l (fun b hb=>h b (List.mem_cons_of_mem _ hb))]
  cases cV q l with
  |none=>rfl
  |some x=>simp only[Option.map_some,List.cons_append,List.length_cons];congr 2;omega
theorem zo {q:UInt8}: ∀(l:List UInt8),(∀b∈l,b≠q)→cV q l=none
 |[],_=>rfl
 |c::r,h=>by rw[rP (h c List.mem_cons_self),zo r (fun b hb=>h b (List.mem_cons_of_mem _ hb))];rfl
theorem o6 {q:UInt8}: ∀(n:Nat) (l:List UInt8),l.length≤n→ ∀t k,cV q l=some (t,k)→1≤k∧k≤l.length∧t.length+1≤k
 |0,l,hn,t,k,h=>by
  have:l=[]:=List.eq_nil_of_length_eq_zero (by omega)
  subst this
  cases h
 |n+1,[],hn,t,k,h=>by cases h
 |n+1,c::r,hn,t,k,h=>by
  simp only[List.length_cons]at hn ⊢
  by_cases hc:c=q
  ·subst hc
   cases r with
   |nil=>
    rw[mG (by intro d t h;cases h)]at h
    cases h
    simp
   |cons d r=>
    by_cases hd:d=c
    ·subst hd
     rw[uR]at h
     cases hq:cV d r with
     |none=>rw[hq]at h;cases h
     |some x=>
      rw[hq]at h
      cases h
      simp only[List.length_cons]at hn ⊢
      have:=o6 n r (by omega) x.1 x.2 hq
      omega
    ·rw[mG (by intro e t h;cases h;exact hd)]at h
     cases h
     simp
  ·rw[rP hc]at h
   cases hq:cV q r with
   |none=>rw[hq]at h;cases h
   |some x=>
    rw[hq]at h
    cases h
    have:=o6 n r (by omega) x.1 x.2 hq
    simp only[List.length_cons]
    omega
theorem pn (l:List UInt8)(q:UInt8):(Lib.index l [q]= -1∧ ∀b∈l,b≠q)∨(∃a r,l=a++q::r∧(∀b∈a,b≠q)∧Lib.index l [q]=(a.length:Int)):=by
 induction l with
 |nil=>exact Or.inl ⟨rfl,by simp⟩
 |cons c l ih=>
  by_cases hc:c=q
  ·subst hc
   refine Or.inr ⟨[],l,rfl,by simp,?_⟩
   simp[Lib.index,List.isPrefixOf]
  ·have hp:([q].isPrefixOf (c::l))=false:=by
    have:(q == c)=false:=by simpa using fun h:q=c=>hc h.symm
    simp[List.isPrefixOf,this]
   rcases ih with⟨h1,h2⟩|⟨a,r,h1,h2,h3⟩
   ·refine Or.inl ⟨?_,?_⟩
    ·simp only[Lib.index,hp,h1];rfl
    ·intro b hb
     rcases List.mem_cons.1 hb with rfl|hb
     ·exact hc
     ·exact h2 b hb
   ·refine Or.inr ⟨c::a,r,by rw[h1];rfl,?_,?_⟩
    ·intro b hb
     rcases List.mem_cons.1 hb with rfl|hb
     ·exact hc
     ·exact h2 b hb
    ·have hne:(Lib.index l [q] == -1)=false:=by rw[h3];simp;try omega
     simp only[Lib.index,hp,hne,h3]
     simp
def dbl:List UInt8→List UInt8
 |[]=>[]
 |c::r=>if c=39 then 39::39::dbl r else c::dbl r
theorem vt: ∀(a l:List UInt8),(∀b∈a,b≠39)→dbl (a++l)=a++dbl l
 |[],l,_=>rfl
 |c::a,l,h=>by
  rw[List.cons_append,dbl,if_neg (h c List.mem_cons_self),vt a l (fun b hb=>h b (List.mem_cons_of_mem _ hb))]
  rfl
theorem vu: ∀(l:List UInt8),(dbl l).length≤2*l.length
 |[]=>Nat.le_refl _
 |c::r=>by
  have:=vu r
  unfold dbl
  split<;>simp only[List.length_cons]<;>omega
theorem uS: ∀(k:Nat) (l:List UInt8),Lib.count l [39]≤k→Lib.replaceK [39] [39,39] k l=dbl l
 |0,l,h=>by
  rcases pn l 39 with⟨h1,h2⟩|⟨a,r,h1,h2,h3⟩
  ·have:=vt l [] h2
   simp only[List.append_nil,dbl]at this
   rw[this];rfl
  ·exfalso
   have:=Lib.count_hit (sub:=[39]) (by simp) h3
   omega
 |k+1,l,h=>by
  rcases pn l 39 with⟨h1,h2⟩|⟨a,r,h1,h2,h3⟩
  ·have:=vt l [] h2
   simp only[List.append_nil,dbl]at this
   rw[this,Lib.replaceK,h1];rfl
  ·have hc:=Lib.count_hit (sub:=[39]) (by simp) h3
   rw[Lib.replaceK_hit _ _ _ _ _ h3]
   have hd:l.drop (a.length+([39]:List UInt8).length)=r:=by
    rw[h1,List.length_singleton,←List.drop_drop,List.drop_left' rfl];rfl
   have ht:l.take a.length=a:=by rw[h1,List.take_left' rfl]
   have hc':Lib.count l [39]=1+Lib.count r [39]:=by rw[hc,hd]
   rw[hd,ht,uS k r (by omega),h1,vt a _ h2,dbl,if_pos rfl]
   simp
theorem AG (l:List UInt8):Lib.replaceAll l [39] [39,39]=dbl l:=by
 unfold Lib.replaceAll Lib.replace Lib.replaceNum
 rw[if_neg (by decide),if_pos (Or.inl (by decide))]
 exact uS _ _ (Nat.le_refl _)
end Go.Abs
set_option linter.unusedVariables false
set_option linter.unusedSimpArgs false
set_option maxRecDepth 100000
namespace Go.Abs
open Go Go.Proofs
def E5:LV:= .cv (.v (.slice none 0 0))
def aV (l:List Tok):List CV:=l.map Tok.cv
def bH (l:List Nat):List CV:=l.map fun(n:Nat)=>CV.int .i64 (n:Int)
def tL (l:List Tok):LV:=if l=[]then E5 else .osl (aV l)
def kL (l:List Nat):LV:=if l=[]then E5 else .osl (bH l)
def scO (s:List UInt8)(fx:Bool)(out:List Tok)(kept:List Nat):Ob:= .cells [LV.str s,LV.bool fx,tL out,kL kept]
def scM (b:Mu)(s:List UInt8)(fx:Bool)(out:List Tok)(kept:List Nat):Mu:=b++[[scO s fx out kept]]
theorem qm (b:Mu)(o:Ob):aU (b++[[o]]) b.length 0=o:=by simp[aU]
theorem qn (b:Mu)(o o':Ob):bj (b++[[o]]) b.length 0 o'=b++[[o']]:=by simp[bj]
section
variable {b:Mu}{s:List UInt8}{fx:Bool}{out:List Tok}{kept:List Nat}
theorem mb:Sc (scM b s fx out kept) b.length 0 s fx [tL out,kL kept]:=qm _ _
theorem PY:gM (tL out)=some (aV out):=by unfold tL;split<;>rename_i h<;>(try subst h)<;>rfl
theorem PX:gM (kL kept)=some (bH kept):=by unfold kL;split<;>rename_i h<;>(try subst h)<;>rfl
theorem MA:bp (strip (tL out))=some (aV out):=by unfold tL;split<;>rename_i h<;>(try subst h)<;>rfl
theorem X4 {a b c d:LV}:gc E.P 55 (.cells [a,b,c,d]) 3=some (d,.cells [a,b,c,strip d]):=by kernel_rfl
theorem WA {a b c d:LV}{l:List CV}:dY E.P 55 (.cells [a,b,c,d]) 3 (LV.osl l)=some (.cells [a,b,c,.osl l]):=by kernel_rfl
theorem X3 {a b c d:LV}:gc E.P 35 (.cells [a,b,c,d]) 2=some (c,.cells [a,b,strip c,d]):=by kernel_rfl
theorem Wz {a b c d:LV}{l:List CV}:dY E.P 35 (.cells [a,b,c,d]) 2 (LV.osl l)=some (.cells [a,b,.osl l,d]):=by kernel_rfl
theorem Tg {a b c d:LV}:bv E.P 35 (.cells [a,b,c,d]) 2=some (strip c):=by kernel_rfl
theorem qX: ∀(l:List Nat),cS 1 (bH l)=true
 |[]=>rfl
 |a::l=>by
  have e:bH (a::l)=CV.int .i64 (a:Int)::bH l:=rfl
  rw[e]
  simp only[cS]
  have:df 1 (CV.int .i64 (a:Int))=true:=rfl
  rw[this]
  exact qX l
theorem qY: ∀(l:List Tok),cS 3 (aV l)=true
 |[]=>rfl
 |a::l=>by
  have e:aV (a::l)=a.cv::aV l:=rfl
  rw[e]
  simp only[cS]
  have:df 3 a.cv=true:=rfl
  rw[this]
  exact qY l
theorem pd {n:Nat}: ∀(l:List Nat),b7 n (bH l)=true
 |[]=>rfl
 |a::l=>by
  have e:bH (a::l)=CV.int .i64 (a:Int)::bH l:=rfl
  rw[e]
  simp only[b7]
  have:below n (CV.int .i64 (a:Int))=true:=rfl
  rw[this]
  exact pd l
theorem pe {n:Nat}: ∀(l:List Tok),b7 n (aV l)=true
 |[]=>rfl
 |a::l=>by
  have e:aV (a::l)=a.cv::aV l:=rfl
  rw[e]
  simp only[b7]
  have:below n a.cv=true:=rfl
  rw[this]
  exact pe l
theorem KQ {a c:List Nat}(h:a.length+c.length≤1000000):dQ 1 (bH a) (bH c)=true:=by
 unfold dQ
 rw[qX,qX]
 simp[bC,bH]
 omega
theorem ye {a c:List Tok}(h:a.length+c.length≤1000000):dQ 3 (aV a) (aV c)=true:=by
 unfold dQ
 rw[qY,qY]
 simp[bC,aV]
 omega
theorem Ve {n:Nat}:LV.osl (bH kept++[CV.int .i64 (n:Int)])=kL (kept++[n]):=by
 unfold kL
 rw[if_neg (by simp)]
 simp[bH]
theorem Wu {t:Tok}:LV.osl (aV out++[t.cv])=tL (out++[t]):=by
 unfold tL
 rw[if_neg (by simp)]
 simp[aV]
theorem T4 (hs:s.length≤200000): ∀(k a e:Nat) (kept:List Nat),a+k=e→e≤300000→kept.length+k≤600000→
  CO (ev E) b.length 0 (e:Int) (a:Int) (scM b s fx out kept)=some (tE (scM b s fx out (kept++List.range' a k))):=by
 intro k
 induction k with
 |zero=>
  intro a e kept hk he hq
  refine aW ?_
  rw[Ey]
  have h1:decide ((a:Int)<(e:Int))=false:=by simp;omega
  rw[h1,cond_false]
  simp
 |succ k ih=>
  intro a e kept hk he hq
  refine aW ?_
  rw[Ey]
  have h1:decide ((a:Int)<(e:Int))=true:=by simp;omega
  rw[h1,cond_true]
  unfold scM
  rw[qm]
  unfold scO
  rw[X4,aa,PX,aa]
  have ha:[CV.int .i64 (a:Int)]=bH [a]:=rfl
  rw[ha,KQ (by simp;omega),aA]
  have hb:b7 (b.length+1) (bH kept++bH [a])=true:=by
   have:bH kept++bH [a]=bH (kept++[a]):=by simp[bH]
   rw[this];exact pd _
  rw[hb,aA,qn,qm,WA,aa,qn,bB (by omega) (by omega)]
  have:=ih (a+1) e (kept++[a]) (by omega) he (by simp;omega)
  unfold scM scO at this
  rw[←ha,Ve]
  have e1:((a+1:Nat):Int)=(a:Int)+1:=by omega
  rw[←e1,this]
  simp[List.range'_succ]
theorem OZ (hs:s.length≤200000){a e:Nat}(h:a≤e)(he:e≤300000)(hk:kept.length+(e-a)≤600000):
  (ev E).call 205 [LV.cv (CV.ref b.length 0 0),LV.int .i64 (a:Int),LV.int .i64 (e:Int)] (scM b s fx out kept)=some (.ret (.ltup []) (scM b s fx out (kept++List.range' a (e-a)))):=by
 refine aJ ?_
 rw[XQ,T4 hs (e-a) a e kept (by omega) he hk,aa,HC]
def ij (t:List UInt8):List UInt8:=[39]++dbl t++[39]
theorem O0 {t:List UInt8}{μ:Mu}(h:t.length≤200000):(ev E).call 206 [LV.str t] μ=some (.ret (.cv (Tok.cv ⟨1,6,ij t⟩)) μ):=by
 refine aJ ?_
 have hd:=vu t
 rw[XR,VM (by omega) (by simp) (by simp),ad,ah,aa,AG,bJ (by simp;omega),aA,bJ (by simp;omega),aA]
 rfl
theorem fM {α:Type}{l:List α}{a e:Nat}(h1:a≤e)(h2:e≤l.length):dB l (a:Int) (e:Int)=some ((l.drop a).take (e-a)):=by
 unfold dB
 have:(decide ((0:Int)≤(a:Int))&&decide ((a:Int)≤(e:Int))&&decide ((e:Int)≤(l.length:Int)))=true:=by simp;omega
 rw[this]
 have e1:((a:Int)).toNat=a:=by omega
 have e2:((e:Int) -(a:Int)).toNat=e-a:=by omega
 simp only[e1,e2]
theorem rj {α:Type}{l:List α}{a:Nat}(h1:a≤l.length):dB l (a:Int) (l.length:Int)=some (l.drop a):=by
 rw[fM h1 (Nat.le_refl _)]
 congr 1
 apply List.take_of_length_le
 simp
noncomputable def DK (b:Mu)(q:Int)(from_ i:Nat)(t:List UInt8)(μ:Mu):Option (List UInt8×Nat)→St
 |none=>oN (iG 7) μ
 |some (x,k)=>tD b.length 0 ((i+k:Nat):Int) (from_:Int) (t++x) 0 0 [] μ
theorem BS {c:UInt8}(l:List UInt8):Lib.hasPrefix l [c]=(match l with|[]=>false|d::_=>decide (d=c)):=by
 cases l with
 |nil=>simp[Lib.hasPrefix]
 |cons d r=>
  by_cases h:d=c
  ·subst h;simp[Lib.hasPrefix,List.isPrefixOf]
  ·have:(c == d)=false:=by simpa using fun e:c=d=>h e.symm
   simp[Lib.hasPrefix,List.isPrefixOf,h,this]
noncomputable def xh (b:Mu)(i:Int)(q:UInt8)(from_:Int)(t:List UInt8)(μ:Mu):List UInt8→St
 |[]=>oC b.length 0 i [q] from_ t 0 0 [] μ
 |d::_=>if d=q then sX b.length 0 i [q] from_ (t++[q]) 0 0 [] μ else oC b.length 0 i [q] from_ t 0 0 [] μ
theorem T3 (hs:s.length≤200000){q:UInt8}{from_:Nat}: ∀(k i:Nat) (t:List UInt8),s.length-i≤k→i≤s.length→t.length≤i→
  CN (ev E) b.length 0 (i:Int) [q] (from_:Int) t 0 0 [] (scM b s fx out kept)=some (DK b 0 from_ i t (scM b s fx out kept) (cV q (s.drop i))):=by
 intro k
 induction k with
 |zero=>
  intro i t hk hi ht
  refine aW ?_
  have h:=mb (b:=b) (s:=s) (fx:=fx) (out:=out) (kept:=kept)
  have hd:s.drop i=[]:=List.drop_eq_nil_of_le (by omega)
  rw[Ex,h,gh,dn,aa,ah,aa,rj hi,aa,hd,O1 (by simp)]
  simp only[ad,ao,aa,ak,am,ah,ae,aj,aA,cond_true,cond_false,Bool.not_true,Bool.not_false,av,au,aq]
  have hx:Lib.index [] [q]= -1:=rfl
  have hx2:decide ((-1:Int)<0)=true:=by decide
  rw[hx,hx2,cond_true,kU,ep]
  rfl
 |succ k ih=>
  intro i t hk hi ht
  refine aW ?_
  have h:=mb (b:=b) (s:=s) (fx:=fx) (out:=out) (kept:=kept)
  rw[Ex,h,gh,dn,aa,ah,aa,rj hi,aa,O1 (by simp;omega)]
  simp only[ad,ao,aa,ak,am,ah,ae,aj,aA,cond_true,cond_false,Bool.not_true,Bool.not_false,av,au,aq]
  rcases pn (s.drop i) q with⟨h1,h2⟩|⟨a,r,h1,h2,h3⟩
  ·have hx2:decide ((-1:Int)<0)=true:=by decide
   rw[h1,hx2,cond_true,kU,ep,zo _ h2]
   rfl
  ·have hx2:decide ((a.length:Int)<0)=false:=by simp
   have hlen:a.length+1+r.length=s.length-i:=by
    have:(s.drop i).length=(a++q::r).length:=by rw[h1]
    simp only[List.length_drop,List.length_append,List.length_cons]at this
    omega
   have hr:s.drop (i+(a.length+1))=r:=by
    rw[←List.drop_drop,h1]
    have:a++q::r=(a++[q])++r:=by simp
    rw[this,List.drop_left' (by simp)]
   have hta:(s.drop i).take a.length=a:=by rw[h1,List.take_left' rfl]
   rw[h3,hx2,cond_false]
   have hG:Cw (ev E) b.length 0 (i:Int) [q] (from_:Int) t (a.length:Int) 0 0 [] (scM b s fx out kept)=
     some (xh b ((i+(a.length+1):Nat):Int) q (from_:Int) (t++a) (scM b s fx out kept) r):=by
    refine aR ?_
    have w1:IntKind.wrap .i64 ((i:Int)+(a.length:Int))=((i+a.length:Nat):Int):=by rw[bB (by omega) (by omega)];omega
    have w2:IntKind.wrap .i64 ((a.length:Int)+1)=((a.length+1:Nat):Int):=by rw[bB (by omega) (by omega)];omega
    have w3:IntKind.wrap .i64 ((i:Int)+((a.length+1:Nat):Int))=((i+(a.length+1):Nat):Int):=by rw[bB (by omega) (by omega)];omega
    rw[RI,h,gh,dn,w1,w2,w3]
    simp only[aa,ah]
    rw[fM (by omega) (by omega),aa]
    have e2:i+a.length-i=a.length:=by omega
    rw[e2,hta,bJ (by omega),aA,rj (by omega),aa,hr,VL,ad,ae,aa,BS]
    have hsm:bC ((t++a).length+[q].length)=true:=bJ (by simp;omega)
    cases r with
    |nil=>simp only[Bool.not_false,cond_true,xh]
    |cons d r'=>
     by_cases hdq:d=q
     ·subst hdq
      simp only[decide_true,Bool.not_true,cond_false,xh,if_true]
      rw[hsm,aA]
     ·simp only[hdq,decide_false,Bool.not_false,cond_true,xh,if_false]
   rw[hG,aa,h1,Bt a _ h2]
   cases r with
   |nil=>
    rw[mG (by intro d t h;cases h)]
    simp only[xh]
    rw[wd]
    simp[DK]
   |cons d r'=>
    by_cases hdq:d=q
    ·subst hdq
     simp only[xh,if_true]
     simp only[List.length_cons]at hlen
     rw[uR,GT,bB (by omega) (by omega)]
     have e1:((i+(a.length+1):Nat):Int)+1=((i+(a.length+2):Nat):Int):=by omega
     have hr2:s.drop (i+(a.length+2))=r':=by
      have:i+(a.length+2)=(i+(a.length+1))+1:=by omega
      rw[this,←List.drop_drop,hr];rfl
     rw[e1,ih (i+(a.length+2)) _ (by omega) (by omega) (by simp;omega),hr2]
     cases cV d r' with
     |none=>rfl
     |some x=>
      simp only[DK,Option.map_some]
      congr 2
      ·omega
      ·simp
    ·simp only[xh,hdq,if_false]
     rw[mG (by intro e t h;cases h;exact hdq),wd]
     simp[DK]
def eV (s:List UInt8)(n:Nat):Except Int (Tok×Nat):=
 match cV ((s[n]?).getD 0) (s.drop (n+1))with
 |none=> .error 7
 |some (t,k)=>if 60<t.length then .error 8 else .ok (⟨1,6,ij t⟩,n+1+k)
def AB (b:Mu)(s:List UInt8)(fx:Bool)(out:List Tok)(kept:List Nat):Except Int (Tok×Nat×List Nat)→Out
 | .ok q=> .ret (.ltup [.cv q.1.cv,LV.int .i64 (q.2.1:Int)]) (scM b s fx out (kept++q.2.2))
 | .error e=> .panic (iG e) (scM b s fx out kept)
def eF (s:List UInt8)(n:Nat):Except Int (Tok×Nat×List Nat):=
 match eV s n with
 | .ok q=> .ok (q.1,q.2,List.range' n (q.2-n))
 | .error e=> .error e
theorem VE (hs:s.length≤200000)(hk:kept.length≤200000){n:Nat}(hn:n<s.length):
  (ev E).call 194 [LV.cv (CV.ref b.length 0 0),LV.int .i64 (n:Int)] (scM b s fx out kept)=some (AB b s fx out kept (eF s n)):=by
 refine aJ ?_
 have h:=mb (b:=b) (s:=s) (fx:=fx) (out:=out) (kept:=kept)
 rw[XO,h,gh,dn,aa,ah,aa,bB (by omega) (by omega)]
 have e1:(n:Int)+1=((n+1:Nat):Int):=by omega
 have e2:n+1-n=1:=by omega
 have hd:s.drop n=s[n]::s.drop (n+1):=List.drop_eq_getElem_cons hn
 rw[e1,fM (by omega) (by omega),aa,e2,hd]
 have e3:List.take 1 (s[n]::s.drop (n+1))=[s[n]]:=rfl
 rw[e3,T3 hs s.length (n+1) [] (by omega) (by omega) (by simp),aa]
 unfold eF eV
 rw[List.getElem?_eq_getElem hn,Option.getD_some]
 cases hq:cV s[n] (s.drop (n+1))with
 |none=>exact HB _ _ _
 |some x=>
  obtain⟨t,k⟩:=x
  have hl:=o6 _ _ (Nat.le_refl _) t k hq
  rw[List.length_drop]at hl
  simp only[DK,List.nil_append]
  rw[HA]
  by_cases h60:60<t.length
  ·have:decide ((60:Int)<(t.length:Int))=true:=by simp;omega
   rw[this,cond_true,kU,ep,if_pos h60]
   rfl
  ·have:decide ((60:Int)<(t.length:Int))=false:=by simp;omega
   rw[this,cond_false,if_neg h60]
   have hG:zZ (ev E) b.length 0 ((n+1+k:Nat):Int) (n:Int) t 0 0 [] (scM b s fx out kept)=some (qH ((n+1+k:Nat):Int) 1 6 (ij t) (scM b s fx out (kept++List.range' n (n+1+k-n)))):=by
    refine aR ?_
    rw[PJ,OZ hs (by omega) (by omega) (by omega)]
    simp only[ad,ao,aa,ak,am,ah,ae,aj,aA,cond_true,cond_false,Bool.not_true,Bool.not_false,av,au,aq]
    rw[O0 (by omega),ad,ef]
   rw[hG,aa,EW]
   rfl
end
end Go.Abs
set_option linter.unusedVariables false
set_option linter.unusedSimpArgs false
namespace Go.Proofs.YtmemoghbijcebaaGreatDoor.Glue
theorem TQ:laidOutB Tryz.prog=true:=by kernel_rfl
end Go.Proofs.YtmemoghbijcebaaGreatDoor.Glue
namespace Go.Abs.Ga
open Go Go.Proofs
section
variable {P:Program}{t:TypeId}{c:CV}
end
end Go.Abs.Ga
set_option linter.unusedVariables false
set_option linter.unusedSimpArgs false
set_option maxRecDepth 100000
namespace Go.Abs
open Go Go.Proofs
section
variable {b:Mu}{s:List UInt8}{fx:Bool}{out:List Tok}{kept:List Nat}
theorem XX (ρ:Rho)(a:List CV)(b:List UInt8)(μ:Mu):aD E ρ 82 [LV.osl a,LV.str b] μ=
  callK (ρ.call 126 [LV.osl a,LV.str b] μ) (fun v1 μ2=>opt (aC .i64 v1) fun n5=>some (.ret (LV.bool (decide ((0:Int)≤n5))) μ2)) (fun v4 μ3=>ax (below (List.length μ3) v4) (some (.panic v4 μ3))):=by kernel_rfl
theorem Wa (ρ:Rho)(a:List CV)(b:List UInt8)(μ:Mu):aD E ρ 126 [LV.osl a,LV.str b] μ=aD E ρ 126 [LV.cv (CV.sl a),LV.str b] μ:=by kernel_rfl
theorem TR {l:List (List UInt8)}{x:List UInt8}{μ:Mu}(hl:l.length≤1000000):(ev E).call 126 [LV.osl (bN l),LV.str x] μ=some (.ret (LV.int .i64 (ru x l 0)) μ):=by
 refine aJ ?_
 rw[Wa]
 exact Qj hl
theorem VN {l:List (List UInt8)}{x:List UInt8}{μ:Mu}(hl:l.length≤1000000):(ev E).call 82 [LV.osl (bN l),LV.str x] μ=some (.ret (LV.bool (l.contains x)) μ):=by
 refine aJ ?_
 rw[XX,TR hl]
 simp only[ad,ao,aa,ak,am,ah,ae,aj,aA,cond_true,cond_false,Bool.not_true,Bool.not_false,av,au,aq]
 rw[xm]
def gq (fx:Bool)(s:List UInt8)(n:Nat):Int:=dh (cK fx aL s n)
def rt (fx:Bool)(s:List UInt8)(n:Nat):UInt8:=atC fx s (runE fx aL s n)
def holE (fx:Bool)(s:List UInt8)(n:Nat):Nat:=atE fx s (runE fx aL s n)
def nb (fx:Bool)(s:List UInt8)(n:Nat):Prop:=(cK fx aL s n).length≤2∧1≤gq fx s n∧gq fx s n≤60∧(rt fx s n=72∨rt fx s n=104)
instance (fx:Bool)(s:List UInt8)(n:Nat):Decidable (nb fx s n):=by unfold nb;infer_instance
def pm (fx:Bool)(s:List UInt8)(n:Nat):Except Int (Tok×Nat×List Nat):=
 if s.length<holE fx s n+(gq fx s n).toNat then .error 7
 else .ok (⟨1,6,ij ((s.drop (holE fx s n)).take (gq fx s n).toNat)⟩,holE fx s n+(gq fx s n).toNat,List.range' (holE fx s n) (gq fx s n).toNat)
def R6 (b:Mu)(s:List UInt8)(fx:Bool)(out:List Tok)(kept:List Nat):Except Int (Tok×Nat×List Nat)→Out
 | .ok q=> .ret (.ltup [.cv q.1.cv,LV.int .i64 (q.2.1:Int),LV.bool true]) (scM b s fx out (kept++q.2.2))
 | .error e=> .panic (iG e) (scM b s fx out kept)
def Td:Tok:=⟨0,0,[]⟩
theorem VD (hs:s.length≤200000)(hk:kept.length≤200000){n:Nat}(hn:n≤s.length):
  (ev E).call 188 [LV.cv (CV.ref b.length 0 0),LV.int .i64 (n:Int)] (scM b s fx out kept)=some (if nb fx s n then R6 b s fx out kept (pm fx s n)else .ret (.ltup [.cv Td.cv,LV.int .i64 (n:Int),LV.bool false]) (scM b s fx out kept)):=by
 have h:=mb (b:=b) (s:=s) (fx:=fx) (out:=out) (kept:=kept)
 have hr:=jR (fx:=fx) (s:=s) (p:=aL) (n:=n)
 have hle:=jr (fx:=fx) (p:=aL) hn
 have hE:holE fx s n≤s.length:=ii hle
 have e72: ∀c:UInt8,decide ((c.toNat:Int)=72)=decide (c=72):=fun c=>cq (k:=72) (by omega)
 have e104: ∀c:UInt8,decide ((c.toNat:Int)=104)=decide (c=104):=fun c=>cq (k:=104) (by omega)
 refine aJ ?_
 rw[XI,qa h (by omega) (fun c=>mA) hn]
 simp only[ad,ao,aa,ak,am,ah,ae,aj,aA,cond_true,cond_false,Bool.not_true,Bool.not_false,av,au,aq]
 rw[iU h (by omega) hle]
 simp only[ad,ao,aa,ak,am,ah,ae,aj,aA,cond_true,cond_false,Bool.not_true,Bool.not_false,av,au,aq]
 rw[yR (by omega),re]
 simp only[ad,ao,aa,ak,am,ah,ae,aj,aA,cond_true,cond_false,Bool.not_true,Bool.not_false,av,au,aq,j8,e72,e104]
 have hNd:dh (cK fx aL s n)=gq fx s n:=rfl
 have hCd:atC fx s (runE fx aL s n)=rt fx s n:=rfl
 have hEd:atE fx s (runE fx aL s n)=holE fx s n:=rfl
 rw[hNd,hCd,hEd]
 by_cases h1:2<(cK fx aL s n).length
 ·have:decide ((2:Int)<((cK fx aL s n).length:Int))=true:=by simp;omega
  rw[this,cond_true,if_neg (by unfold nb;omega)]
  rfl
 ·have e1:decide ((2:Int)<((cK fx aL s n).length:Int))=false:=by simp;omega
  rw[e1,cond_false]
  by_cases h2:gq fx s n<1
  ·have:decide (gq fx s n<1)=true:=by simp[h2]
   rw[this,cond_true,if_neg (by unfold nb;omega)]
   rfl
  ·have e2:decide (gq fx s n<1)=false:=by simp[h2]
   rw[e2,cond_false]
   by_cases h3:60<gq fx s n
   ·have:decide (60<gq fx s n)=true:=by simp[h3]
    rw[this,cond_true,if_neg (by unfold nb;omega)]
    rfl
   ·have e3:decide (60<gq fx s n)=false:=by simp[h3]
    rw[e3,cond_false]
    obtain⟨m,hm⟩: ∃m:Nat,gq fx s n=(m:Int):=⟨(gq fx s n).toNat,by omega⟩
    have hG:xN (ev E) b.length 0 (holE fx s n:Nat) (gq fx s n) 0 0 [] (scM b s fx out kept)=some (match pm fx s n with| .ok q=>sS (q.2.1:Int) true q.1.kind q.1.type q.1.text (scM b s fx out (kept++q.2.2))| .error e=>sT (iG e) (scM b s fx out kept)):=by
     refine aR ?_
     have w1:IntKind.wrap .i64 ((holE fx s n:Int)+(m:Int))=((holE fx s n+m:Nat):Int):=by rw[bB (by omega) (by omega)];omega
     have e0:((m:Int)).toNat=m:=by omega
     unfold pm
     rw[RC,h,gh,dn,hm,w1,e0]
     simp only[ad,ao,aa,ak,am,ah,ae,aj,aA,cond_true,cond_false,Bool.not_true,Bool.not_false,av,au,aq]
     by_cases h4:s.length<holE fx s n+m
     ·have:decide ((s.length:Int)<((holE fx s n+m:Nat):Int))=true:=by simp;omega
      rw[this,cond_true,kU,ep,if_pos h4]
     ·have:decide ((s.length:Int)<((holE fx s n+m:Nat):Int))=false:=by simp;omega
      rw[this,cond_false,if_neg h4]
      have hG8:Cv (ev E) b.length 0 (holE fx s n:Nat) (m:Int) 0 0 [] (scM b s fx out kept)=some (sU ((holE fx s n+m:Nat):Int) true 1 6 (ij ((s.drop (holE fx s n)).take m)) (scM b s fx out (kept++List.range' (holE fx s n) m))):=by
       refine aR ?_
       have h':=mb (b:=b) (s:=s) (fx:=fx) (out:=out) (kept:=kept++List.range' (holE fx s n) m)
       have e5:holE fx s n+m-holE fx s n=m:=by omega
       rw[RD,w1,OZ hs (by omega) (by omega) (by omega),e5]
       simp only[ad,ao,aa,ak,am,ah,ae,aj,aA,cond_true,cond_false,Bool.not_true,Bool.not_false,av,au,aq]
       rw[h',gh,dn]
       simp only[ad,ao,aa,ak,am,ah,ae,aj,aA,cond_true,cond_false,Bool.not_true,Bool.not_false,av,au,aq]
       rw[fM (by omega) (by omega),aa,e5,O0 (by simp;omega),ad,ef]
      rw[hG8,aa,GN]
    have hfin:(opt (xN (ev E) b.length 0 (holE fx s n:Nat) (gq fx s n) 0 0 [] (scM b s fx out kept)) (kB (ev E) 188 nv []))=some (R6 b s fx out kept (pm fx s n)):=by
     rw[hG,aa]
     cases pm fx s n with
     |ok q=>exact GL _ _ _ _ _ _ _
     |error e=>exact GM _ _ _
    by_cases h5:rt fx s n=72
    ·have:decide (rt fx s n=72)=true:=by simp[h5]
     rw[this,if_pos ⟨by omega,by omega,by omega,Or.inl h5⟩]
     exact hfin
    ·have e5:decide (rt fx s n=72)=false:=by simp[h5]
     rw[e5]
     by_cases h6:rt fx s n=104
     ·have:decide (rt fx s n=104)=true:=by simp[h6]
      rw[this,if_pos ⟨by omega,by omega,by omega,Or.inr h6⟩]
      exact hfin
     ·have e6:decide (rt fx s n=104)=false:=by simp[h6]
      rw[e6,if_neg (by unfold nb;intro hh;exact hh.2.2.2.elim h5 h6)]
      rfl
def xo (fx:Bool)(out:List Tok):Bool:=fx&&(match out.getLast? with|none=>true|some t=>decide (t.kind=2)&&[[40],[44],[47],[61]].contains t.text)
theorem VC (ho:out.length≤200000):(ev E).call 187 [LV.cv (CV.ref b.length 0 0)] (scM b s fx out kept)=some (.ret (LV.bool (xo fx out)) (scM b s fx out kept)):=by
 refine aJ ?_
 have h:=mb (b:=b) (s:=s) (fx:=fx) (out:=out) (kept:=kept)
 rw[XH,h,xF,rV]
 simp only[ad,ao,aa,ak,am,ah,ae,aj,aA,cond_true,cond_false,Bool.not_true,Bool.not_false,av,au,aq]
 cases fx with
 |false=>rfl
 |true=>
  simp only[ad,ao,aa,ak,am,ah,ae,aj,aA,cond_true,cond_false,Bool.not_true,Bool.not_false,av,au,aq]
  have hlen:(aV out).length=out.length:=by simp[aV]
  have hG:MR (ev E) b.length 0 (scM b s true out kept)=some (oA (xo true out) (scM b s true out kept)):=by
   refine aR ?_
   rw[RA,h,Tg,aa,MA,aa,hlen]
   by_cases h0:out=[]
   ·subst h0;rfl
   ·have hpos:0<out.length:=by
     cases out with
     |nil=>exact absurd rfl h0
     |cons a r=>simp
    have e0:decide ((out.length:Int)=0)=false:=by simp[h0]
    rw[e0,cond_false]
    have hg:out.getLast?=some (out.getLast h0):=List.getLast?_eq_some_getLast h0
    have hG5:MS (ev E) b.length 0 (scM b s true out kept)=some (oB (xo true out) (scM b s true out kept)):=by
     refine aR ?_
     rw[RB,h,Tg,aa,MA,aa,aa,MA,aa,hlen,bB (by omega) (by omega)]
     have e1:(out.length:Int) -1=((out.length-1:Nat):Int):=by omega
     have e2:(aV out)[out.length-1]? =some (out.getLast h0).cv:=by
      unfold aV
      rw[List.getElem?_map,List.getElem?_eq_getElem (by omega),List.getLast_eq_getElem]
      rfl
     rw[e1,fD,e2,aa,ef]
     unfold xo
     rw[hg]
     simp only[Bool.true_and]
     by_cases hk:(out.getLast h0).kind=2
     ·have:decide ((out.getLast h0).kind=2)=true:=by simp[hk]
      rw[this,cond_true]
      have e3:LV.osl [CV.str ([40]:List UInt8),CV.str ([44]:List UInt8),CV.str ([47]:List UInt8),CV.str ([61]:List UInt8)]=LV.osl (bN [[40],[44],[47],[61]]):=rfl
      rw[e3,VN (by simp)]
      simp only[ad,ao,aa,ak,am,ah,ae,aj,aA,cond_true,cond_false,Bool.not_true,Bool.not_false,av,au,aq,Bool.true_and]
     ·have:decide ((out.getLast h0).kind=2)=false:=by simp[hk]
      rw[this,cond_false,Bool.false_and]
    rw[hG5,aa,GK]
  rw[hG,aa,GJ]
def gD (t:List UInt8):Option (List UInt8):=
 if t=[60,61]then some [46,76,69,46]else if t=[62,61]then some [46,71,69,46]else if t=[61,61]then some [46,69,81,46]else if t=[47,61]then some [46,78,69,46]
 else if t=[60]then some [46,76,84,46]else if t=[62]then some [46,71,84,46]else none
def gd (fx:Bool)(s:List UInt8)(n:Nat):Except Int (Tok×Nat):=
 let a:=atC fx s n
 let m:=atE fx s n
 let c:=atC fx s m
 match gD [a,c]with
 |some w=> .ok (⟨2,0,w⟩,atE fx s m)
 |none=>if c≠0∧bV.contains [a,c]then .ok (⟨2,0,[a,c]⟩,atE fx s m)
  else match gD [a]with
   |some w=> .ok (⟨2,0,w⟩,m)
   |none=>if bV.contains [a]then .ok (⟨2,0,[a]⟩,m)else .error 7
end
end Go.Abs
set_option linter.unusedVariables false
set_option linter.unusedSimpArgs false
set_option maxRecDepth 100000
namespace Go.Abs
open Go Go.Proofs
def ksV:List Value:=[Value.string ⟨⟨([60,61]:List UInt8)⟩⟩,Value.string ⟨⟨([62,61]:List UInt8)⟩⟩,Value.string ⟨⟨([61,61]:List UInt8)⟩⟩,Value.string ⟨⟨([47,61]:List UInt8)⟩⟩,Value.string ⟨⟨([60]:List UInt8)⟩⟩,Value.string ⟨⟨([62]:List UInt8)⟩⟩]
def vsV:List CV:=[CV.str ([46,76,69,46]:List UInt8),CV.str ([46,71,69,46]:List UInt8),CV.str ([46,69,81,46]:List UInt8),CV.str ([46,78,69,46]:List UInt8),CV.str ([46,76,84,46]:List UInt8),CV.str ([46,71,84,46]:List UInt8)]
section
variable {b:Mu}{s:List UInt8}{fx:Bool}{out:List Tok}{kept:List Nat}{μ:Mu}
theorem O2:(ev E).call 215 [] μ=some (.ret (LV.cv (CV.mview ksV vsV)) μ):=aJ (by rw[XW];rfl)
theorem Ea {s:S}:vA (LV.cv (CV.mview ksV vsV)) s μ=some (ksV,vsV):=rfl
theorem JP:kQ .string ksV=true:=by decide
theorem yA (t:List UInt8):gQ ksV vsV (Value.string ⟨⟨t⟩⟩)=(gD t).map CV.str:=by
 have h: ∀u:List UInt8,rx (Value.string ⟨⟨t⟩⟩) (Value.string ⟨⟨u⟩⟩)=decide (t=u):=fun u=>rfl
 simp only[ksV,vsV,gQ,h]
 unfold gD
 by_cases h1:t=[60,61]
 ·simp[h1]
 ·by_cases h2:t=[62,61]
  ·simp[h2]
  ·by_cases h3:t=[61,61]
   ·simp[h3]
   ·by_cases h4:t=[47,61]
    ·simp[h4]
    ·by_cases h5:t=[60]
     ·simp[h5]
     ·by_cases h6:t=[62]
      ·simp[h6]
      ·simp[h1,h2,h3,h4,h5,h6]
theorem U2 {a:UInt8}:bn [CV.int .u8 (a.toNat:Int)]=some [a]:=dg [a]
theorem U3 {a c:UInt8}:bn [CV.int .u8 (a.toNat:Int),CV.int .u8 (c.toNat:Int)]=some [a,c]:=dg [a,c]
theorem Qd {a:UInt8}{m:Nat}{x y:Int}{z:List UInt8}:In (ev E) (m:Int) [a] x y z μ=some (stT μ m4 kz (if bV.contains [a]then .ok (⟨2,0,[a]⟩,m)else .error 7)):=by
 refine aR ?_
 rw[PK,Lh]
 simp only[ad,ao,aa,ak,am,ah,ae,aj,aA,cond_true,cond_false,Bool.not_true,Bool.not_false,av,au,aq]
 rw[yU (l:=bV) (by decide)]
 simp only[ad,ao,aa,ak,am,ah,ae,aj,aA,cond_true,cond_false,Bool.not_true,Bool.not_false,av,au,aq]
 cases bV.contains [a]with
 |true=>rfl
 |false=>rw[Bool.not_false,cond_true,kU,ep];rfl
def one (a:UInt8)(m:Nat):Except Int (Tok×Nat):=match gD [a]with
   |some w=> .ok (⟨2,0,w⟩,m)
   |none=>if bV.contains [a]then .ok (⟨2,0,[a]⟩,m)else .error 7
theorem Fw {a:UInt8}{m:Nat}{x y:Int}{z:List UInt8}:Cx (ev E) (a.toNat:Int) (m:Int) x y z μ=some (stT μ mi mj (one a m)):=by
 refine aR ?_
 rw[RK,U2,aa,O2,ad]
 simp only[ad,ao,aa,ak,am,ah,ae,aj,aA,cond_true,cond_false,Bool.not_true,Bool.not_false,av,au,aq,j8,Ea,JP,yA]
 unfold one
 cases gD [a]with
 |some w=>rfl
 |none=>
  simp only[Option.map_none,optE]
  rw[Qd,aa]
  cases bV.contains [a]with
  |true=>exact EX _ _ _ _ _ _
  |false=>exact EY _ _ _
theorem Sm {a c:UInt8}{m e:Nat}{x y:Int}{z:List UInt8}:MW (ev E) (a.toNat:Int) (m:Int) (c.toNat:Int) (e:Int) [a,c] x y z μ=some (stT μ jZ iK (if c≠0∧bV.contains [a,c]then .ok (⟨2,0,[a,c]⟩,e)else one a m)):=by
 refine aR ?_
 have hone:kS (ev E) jy [] [(4,0),(5,0)] (stT μ mi mj (one a m))=some (stT μ jZ iK (one a m)):=by
  cases one a m with
  |ok q=>exact GW _ _ _ _ _ _
  |error e=>exact GX _ _ _
 rw[RJ,po,Fw,aa,hone,Lh]
 simp only[ad,ao,aa,ak,am,ah,ae,aj,aA,cond_true,cond_false,Bool.not_true,Bool.not_false,av,au,aq]
 rw[yU (l:=bV) (by decide)]
 simp only[ad,ao,aa,ak,am,ah,ae,aj,aA,cond_true,cond_false,Bool.not_true,Bool.not_false,av,au,aq]
 by_cases hc:c=0
 ·subst hc;rfl
 ·have h1:(c != 0)=true:=by simp[hc]
  rw[h1]
  simp only[ad,ao,aa,ak,am,ah,ae,aj,aA,cond_true,cond_false,Bool.not_true,Bool.not_false,av,au,aq,hc,ne_eq,not_false_eq_true,true_and]
  cases bV.contains [a,c]with
  |true=>rfl
  |false=>
   rw[cond_false,Fw,aa,hone]
   rfl
theorem VF {l i:Nat}{r:List LV}(h:Sc μ l i s fx r)(hs:s.length≤200000){n:Nat}(hn:n≤s.length):
  (ev E).call 195 [LV.cv (CV.ref l i 0),LV.int .i64 (n:Int)] μ=some (uM μ (gd fx s n)):=by
 have hle:=ii (fx:=fx) hn
 refine aJ ?_
 rw[XP,iU h (by omega) hn]
 simp only[ad,ao,aa,ak,am,ah,ae,aj,aA,cond_true,cond_false,Bool.not_true,Bool.not_false,av,au,aq]
 rw[iU h (by omega) hle]
 simp only[ad,ao,aa,ak,am,ah,ae,aj,aA,cond_true,cond_false,Bool.not_true,Bool.not_false,av,au,aq]
 rw[U3,aa,O2,ad]
 simp only[ad,ao,aa,ak,am,ah,ae,aj,aA,cond_true,cond_false,Bool.not_true,Bool.not_false,av,au,aq,j8,Ea,JP,yA]
 unfold gd
 simp only
 rw[Sm,aa]
 cases gD [atC fx s n,atC fx s (atE fx s n)]with
 |some w=>rfl
 |none=>
  simp only[Option.map_none,optE]
  have: ∀q:Except Int (Tok×Nat),kB (ev E) 195 jy [] (stT μ jZ iK q)=some (uM μ q):=by
   intro q
   cases q with
   |ok q=>exact GU _ _ _ _ _ _
   |error e=>exact GV _ _ _
  rw[this]
  rfl
def noK:Except Int (Tok×Nat)→Except Int (Tok×Nat×List Nat)
 | .ok q=> .ok (q.1,q.2,[])
 | .error e=> .error e
def eN (w:List UInt8):Tok:=if w=gl∨w=eT then⟨1,5,w⟩else⟨2,0,w⟩
def gk (fx:Bool)(s:List UInt8)(n:Nat)(c:UInt8):Except Int (Tok×Nat×List Nat):=
 if bh c then(if 31<(cK fx bE s n).length then .error 4 else .ok (⟨0,0,up (cK fx bE s n)⟩,runE fx bE s n,[]))
 else if aL c||(decide (c=46)&&aL (atC fx s (n+1)))then noK (ez fx s n)
 else if c=46 then(if(cI fx s n).2.2 then .ok (eN (cI fx s n).1,(cI fx s n).2.1,[])else .error 7)
 else if c=39∨c=34 then eF s n
 else noK (gd fx s n)
def eW (fx:Bool)(s:List UInt8)(out:List Tok)(n:Nat):Except Int (Tok×Nat×List Nat):=
 if xo fx out&&aL ((s[n]?).getD 0)&&decide (nb fx s n)then pm fx s n else gk fx s n ((s[n]?).getD 0)
def stK (b:Mu)(s:List UInt8)(fx:Bool)(out:List Tok)(kept:List Nat):Except Int (Tok×Nat×List Nat)→St
 | .ok q=>cN (q.2.1:Int) q.1.kind q.1.type q.1.text (scM b s fx out (kept++q.2.2))
 | .error e=>bF (iG e) (scM b s fx out kept)
theorem Kg {q:Except Int (Tok×Nat)}:stT (scM b s fx out kept) cN bF q=stK b s fx out kept (noK q):=by
 cases q with
 |ok q=>simp only[stT,noK,stK,List.append_nil]
 |error e=>rfl
theorem Qb {w:List UInt8}{e:Nat}{x y:Int}{z:List UInt8}:(opt (jU (ev E) w (e:Int) x y z μ) (kS (ev E) e7 [.block 0,.seq (cA 169 [1,1,1,1,1])] [(4,0),(5,0)]))=some (cN (e:Int) (eN w).kind (eN w).type (eN w).text μ):=by
 have:jU (ev E) w (e:Int) x y z μ=some (ky (e:Int) (eN w).kind (eN w).type (eN w).text μ):=by
  refine aR ?_
  rw[PC]
  have h3:([46,84,82,85,69,46]:List UInt8)=gl:=rfl
  have h4:([46,70,65,76,83,69,46]:List UInt8)=eT:=rfl
  rw[h3,h4]
  unfold eN
  by_cases h1:w=gl
  ·simp[h1]
  ·by_cases h2:w=eT
   ·simp[h2]
   ·simp[h1,h2]
 rw[this,aa,EO]
theorem Qc (hs:s.length≤200000){n:Nat}(hn:n≤s.length){x y:Int}{z:List UInt8}:(opt (pC (ev E) b.length 0 (n:Int) x y z (scM b s fx out kept)) (kS (ev E) e7 [] [(4,0),(5,0)]))=some (stK b s fx out kept (noK (gd fx s n))):=by
 have:pC (ev E) b.length 0 (n:Int) x y z (scM b s fx out kept)=some (stT (scM b s fx out kept) qD qE (gd fx s n)):=by
  refine aR ?_
  rw[PD,VF mb hs hn]
  cases gd fx s n with
  |ok q=>simp only[uM,ad,ao,aa,ak,am,ah,ae,aj,aA,cond_true,cond_false,Bool.not_true,Bool.not_false,av,au,aq,ef];rfl
  |error e=>rfl
 rw[this,aa,←Kg]
 cases gd fx s n with
 |ok q=>exact EP _ _ _ _ _ _
 |error e=>exact EQ _ _ _
theorem Sk (hs:s.length≤200000)(hk:kept.length≤200000){n:Nat}(hn:n<s.length){x y:Int}{z:List UInt8}:su (ev E) b.length 0 (n:Int) (((s[n]?).getD 0).toNat:Int) x y z (scM b s fx out kept)=some (stK b s fx out kept (gk fx s n ((s[n]?).getD 0))):=by
 have h:=mb (b:=b) (s:=s) (fx:=fx) (out:=out) (kept:=kept)
 have e46: ∀c:UInt8,decide ((c.toNat:Int)=46)=decide (c=46):=fun c=>cq (k:=46) (by omega)
 have e39: ∀c:UInt8,decide ((c.toNat:Int)=39)=decide (c=39):=fun c=>cq (k:=39) (by omega)
 have e34: ∀c:UInt8,decide ((c.toNat:Int)=34)=decide (c=34):=fun c=>cq (k:=34) (by omega)
 have w1:IntKind.wrap .i64 ((n:Int)+1)=((n+1:Nat):Int):=by rw[bB (by omega) (by omega)];omega
 have hr:=jR (fx:=fx) (s:=s) (p:=bE) (n:=n)
 obtain⟨c,hc⟩: ∃c,c=(s[n]?).getD 0:=⟨_,rfl⟩
 rw[←hc]
 have hnum: ∀{k1 k2:CV→Mu→Option St},callK (some (uM (scM b s fx out kept) (ez fx s n))) (fun v μ=>opt (aT v) fun xs=>opt (aw xs) fun q=>ig q.1 fun n1 n2 s3=>opt (aw q.2) fun q2=>opt (aC .i64 q2.1) fun n4=>opt (aO q2.2) fun u=>some (cN n4 n1 n2 s3 μ)) (fun v μ=>some (bF v μ))=some (stK b s fx out kept (noK (ez fx s n))):=by
  intro k1 k2
  rw[←Kg]
  cases ez fx s n with
  |ok q=>simp only[uM,ad,ao,aa,ak,am,ah,ae,aj,aA,cond_true,cond_false,Bool.not_true,Bool.not_false,av,au,aq,ef];rfl
  |error e=>rfl
 have hquo:callK (some (AB b s fx out kept (eF s n))) (fun v μ=>opt (aT v) fun xs=>opt (aw xs) fun q=>ig q.1 fun n1 n2 s3=>opt (aw q.2) fun q2=>opt (aC .i64 q2.1) fun n4=>opt (aO q2.2) fun u=>some (cN n4 n1 n2 s3 μ)) (fun v μ=>some (bF v μ))=some (stK b s fx out kept (eF s n)):=by
  cases eF s n with
  |ok q=>simp only[AB,ad,ao,aa,ak,am,ah,ae,aj,aA,cond_true,cond_false,Bool.not_true,Bool.not_false,av,au,aq,ef];rfl
  |error e=>rfl
 refine aR ?_
 rw[Rz,w1,iU h (by omega) (by omega)]
 simp only[ad,ao,aa,ak,am,ah,ae,aj,aA,cond_true,cond_false,Bool.not_true,Bool.not_false,av,au,aq]
 rw[yS]
 simp only[ad,ao,aa,ak,am,ah,ae,aj,aA,cond_true,cond_false,Bool.not_true,Bool.not_false,av,au,aq]
 unfold gk
 cases hlet:bh c with
 |true=>
  rw[cond_true,qa h (by omega) (fun c=>Vt) (by omega)]
  simp only[ad,ao,aa,ak,am,ah,ae,aj,aA,cond_true,cond_false,Bool.not_true,Bool.not_false,av,au,aq,if_true]
  by_cases h31:31<(cK fx bE s n).length
  ·have:decide ((31:Int)<((cK fx bE s n).length:Int))=true:=by simp;omega
   rw[this,cond_true,kU,ep,if_pos h31]
   rfl
  ·have:decide ((31:Int)<((cK fx bE s n).length:Int))=false:=by simp;omega
   rw[this,cond_false,D3 (by omega),ad,ah,aa,if_neg h31]
   simp only[stK,List.append_nil]
 |false=>
  rw[cond_false,mA]
  simp only[ad,ao,aa,ak,am,ah,ae,aj,aA,cond_true,cond_false,Bool.not_true,Bool.not_false,av,au,aq,Bool.false_eq_true,if_false,e46,e39,e34]
  have hdot: ∀(o:Option St),(decide (c=46)&&aL (atC fx s (n+1)))=false→aL c=false→
    cond (decide (c = 46)) (callK ((ev E).call 193 [LV.cv (CV.ref b.length 0 0), LV.int .i64 (n : Int)] (scM b s fx out kept)) (fun v103 μ104 =>
     opt (aT v103) fun xs107=>
     opt (aw xs107) fun q108=>
     opt (aN q108.1) fun s109=>
     opt (aw q108.2) fun q110=>
     opt (aC .i64 q110.1) fun n111=>
     opt (aw q110.2) fun q112=>
     opt (aM q112.1) fun b113=>
     opt (aO q112.2) fun u114=>
     cond (!b113) (
     callK ((ev E).call 191 [LV.int .i64 (7 : Int)] μ104) (fun v115 μ116 =>
     opt (aT v115) fun xs119=>
     opt (aO xs119) fun u120=>
     opt (jU (ev E) s109 n111 x y z μ116) (kS (ev E) e7 [.block 0,.seq (cA 169 [1,1,1,1,1])] [(4,0),(5,0)])) (fun v118 μ117=>
     some (bF v118 μ117))) (
     opt (jU (ev E) s109 n111 x y z μ104) (kS (ev E) e7 [.block 0,.seq (cA 169 [1,1,1,1,1])] [(4,0),(5,0)]))) (fun v106 μ105=>
     some (bF v106 μ105))) o=if c=46 then some (stK b s fx out kept (if(cI fx s n).2.2 then .ok (eN (cI fx s n).1,(cI fx s n).2.1,[])else .error 7))else o:=by
   intro o h1 h2
   by_cases h46:c=46
   ·have:decide (c=46)=true:=by simp[h46]
    rw[this,cond_true,OX h hs (by omega),if_pos h46]
    simp only[ad,ao,aa,ak,am,ah,ae,aj,aA,cond_true,cond_false,Bool.not_true,Bool.not_false,av,au,aq]
    cases hd:(cI fx s n).2.2 with
    |true=>
     rw[Bool.not_true,cond_false,Qb]
     simp only[if_true,stK,List.append_nil]
    |false=>
     rw[Bool.not_false,cond_true,kU,ep]
     rfl
   ·have:decide (c=46)=false:=by simp[h46]
    rw[this,cond_false,if_neg h46]
  have htail: ∀(o1:Option St),o1=some (stK b s fx out kept (eF s n))→
    cond (decide (c=39)) o1 (cond (decide (c=34)) o1 (opt (pC (ev E) b.length 0 (n:Int) x y z (scM b s fx out kept)) (kS (ev E) e7 [] [(4,0),(5,0)])))=
     some (stK b s fx out kept (if c=39∨c=34 then eF s n else noK (gd fx s n))):=by
   intro o1 ho
   rw[Qc hs (by omega),ho]
   by_cases h1:c=39
   ·simp[h1]
   ·by_cases h2:c=34
    ·simp[h2]
    ·simp[h1,h2]
  cases hdig:aL c with
  |true=>
   rw[cond_true,OW h hs (by omega)]
   simp only[Bool.true_or,if_true]
   exact hnum (k1:=fun _ _=>none) (k2:=fun _ _=>none)
  |false=>
   rw[cond_false]
   by_cases h46:c=46
   ·have h1:decide (c=46)=true:=by simp[h46]
    rw[h1,cond_true,mA]
    simp only[ad,ao,aa,ak,am,ah,ae,aj,aA,cond_true,cond_false,Bool.not_true,Bool.not_false,av,au,aq,Bool.false_or,Bool.true_and]
    cases hd2:aL (atC fx s (n+1))with
    |true=>
     rw[cond_true,OW h hs (by omega)]
     simp only[if_true]
     exact hnum (k1:=fun _ _=>none) (k2:=fun _ _=>none)
    |false=>
     have:=hdot none (by rw[hd2];simp) hdig
     rw[h1,cond_true]at this
     simp only[ad,ao,aa,ak,am,ah,ae,aj,aA,cond_true,cond_false,Bool.not_true,Bool.not_false,av,au,aq,Bool.false_eq_true,if_false]
     rw[this,if_pos h46,if_pos h46]
   ·have h1:decide (c=46)=false:=by simp[h46]
    rw[h1,cond_false,cond_false,VE hs hk hn]
    simp only[Bool.false_or,Bool.false_and,Bool.false_eq_true,if_false]
    rw[if_neg h46]
    exact htail _ hquo
theorem OV (hs:s.length≤200000)(hk:kept.length≤200000)(ho:out.length≤200000){n:Nat}(hn:n<s.length):
  (ev E).call 169 [LV.cv (CV.ref b.length 0 0),LV.int .i64 (n:Int)] (scM b s fx out kept)=some (AB b s fx out kept (eW fx s out n)):=by
 have h:=mb (b:=b) (s:=s) (fx:=fx) (out:=out) (kept:=kept)
 have hfin: ∀{x y:Int} {z:List UInt8},(opt (su (ev E) b.length 0 (n:Int) (((s[n]?).getD 0).toNat:Int) x y z (scM b s fx out kept)) (kB (ev E) 169 e7 []))=some (AB b s fx out kept (gk fx s n ((s[n]?).getD 0))):=by
  intro x y z
  rw[Sk hs hk hn,aa]
  cases gk fx s n ((s[n]?).getD 0)with
  |ok q=>exact GH _ _ _ _ _ _
  |error e=>exact GI _ _ _
 refine aJ ?_
 have hg:s[n]? =some ((s[n]?).getD 0):=by rw[List.getElem?_eq_getElem hn,Option.getD_some]
 rw[XG,h,gh,dn,aa,ah,aa,mL,hg,aa,VC ho]
 simp only[ad,ao,aa,ak,am,ah,ae,aj,aA,cond_true,cond_false,Bool.not_true,Bool.not_false,av,au,aq]
 unfold eW
 cases hm:xo fx out with
 |false=>
  rw[cond_false,hfin]
  rfl
 |true=>
  rw[cond_true,mA]
  simp only[ad,ao,aa,ak,am,ah,ae,aj,aA,cond_true,cond_false,Bool.not_true,Bool.not_false,av,au,aq]
  cases hd:aL ((s[n]?).getD 0)with
  |false=>
   rw[cond_false,hfin]
   rfl
  |true=>
   rw[cond_true,VD hs hk (by omega)]
   by_cases hh:nb fx s n
   ·simp only[hh,if_true,Bool.true_and,decide_true]
    cases pm fx s n with
    |ok q=>simp only[R6,ad,ao,aa,ak,am,ah,ae,aj,aA,cond_true,cond_false,Bool.not_true,Bool.not_false,av,au,aq,ef];rfl
    |error e=>rfl
   ·simp only[hh,if_false,Bool.true_and,decide_false,Bool.false_eq_true]
    simp only[ad,ao,aa,ak,am,ah,ae,aj,aA,cond_true,cond_false,Bool.not_true,Bool.not_false,av,au,aq,ef]
    exact hfin
end
end Go.Abs
set_option linter.unusedVariables false
set_option linter.unusedSimpArgs false
set_option maxRecDepth 100000
namespace Go.Abs
open Go Go.Proofs
section
variable {b:Mu}{s:List UInt8}{fx:Bool}{out:List Tok}{kept:List Nat}{μ:Mu}
theorem UM {n:Nat}{c:UInt8}(h:s[n]? =some c)(hc:c≠32):skipN fx s n=n:=by
 unfold skipN
 split
 ·have hn:n<s.length:=by
   rcases Nat.lt_or_ge n s.length with h1|h1
   ·exact h1
   ·rw[List.getElem?_eq_none h1]at h;cases h
  have hd:s.drop n=s[n]::s.drop (n+1):=List.drop_eq_getElem_cons hn
  rw[List.getElem?_eq_getElem hn]at h
  injection h with h
  rw[hd,bq,h,if_neg hc]
  rfl
 ·rfl
theorem gZ {n:Nat}{c:UInt8}(h:s[n]? =some c):n<s.length:=by
 rcases Nat.lt_or_ge n s.length with h1|h1
 ·exact h1
 ·rw[List.getElem?_eq_none h1]at h;cases h
theorem pR {n:Nat}{c:UInt8}(h:s[n]? =some c)(hc:c≠32):atC fx s n=c∧atE fx s n=n+1:=by
 have hn:=gZ h
 unfold atC atE
 rw[UM h hc,h]
 exact⟨rfl,by rw[if_pos hn]⟩
theorem pS {n:Nat}:n≤atE fx s n:=by
 have:=FA (fx:=fx) (s:=s) (n:=n)
 unfold atE
 split<;>omega
theorem nt {p:UInt8→Bool}{n:Nat}:n≤runE fx p s n:=by unfold runE;omega
theorem Kf {p:UInt8→Bool}{n:Nat}{c:UInt8}(h:s[n]? =some c)(hc:c≠32)(h0:c≠0)(hp:p c=true):n+1≤runE fx p s n:=by
 obtain⟨h1,h2⟩:=pR (fx:=fx) h hc
 have:=(Bx (fx:=fx) (s:=s) (p:=p) (n:=n) (by rw[h1,hp];simp[h0])).2
 rw[this,h2]
 exact nt
def Km (s:List UInt8)(n:Nat):Except Int (Tok×Nat×List Nat)→Prop
 | .ok q=>n<q.2.1∧q.2.1≤s.length∧q.2.2.length+n≤q.2.1
 | .error _=>True
theorem Q1 {n:Nat}(hn:n≤s.length):n≤(bg fx s n).2.2.1∧(bg fx s n).2.2.1≤s.length:=by
 unfold bg
 have hle:=ii (fx:=fx) hn
 have hle2:=ii (fx:=fx) hle
 have hst:expStart fx s n≤s.length:=by unfold expStart;split<;>assumption
 have hst2:n≤expStart fx s n:=by
  have h1:=pS (fx:=fx) (s:=s) (n:=n)
  have h2:=pS (fx:=fx) (s:=s) (n:=atE fx s n)
  unfold expStart;split<;>omega
 split
 ·have h1:=nt (fx:=fx) (s:=s) (p:=aL) (n:=expStart fx s n)
  have h2:=jr (fx:=fx) (p:=aL) hst
  simp only
  omega
 ·simp only;omega
theorem Sf {whole part digits:List UInt8}{letter:UInt8}{ok:Bool}{e:Nat}{q:Tok×Nat}(h:gt whole part digits letter ok e= .ok q):q.2=e:=by
 unfold gt at h
 split at h
 ·cases h
 ·injection h with h
  rw[←h]
theorem HR {n:Nat}{c:UInt8}(h:s[n]? =some c)(hc:aL c=true∨c=46):Km s n (noK (ez fx s n)):=by
 have hn:=gZ h
 have h32:c≠32:=by
  rintro rfl
  rcases hc with h1|h1
  ·exact absurd h1 (by decide)
  ·exact absurd h1 (by decide)
 have h0:c≠0:=by
  rintro rfl
  rcases hc with h1|h1
  ·exact absurd h1 (by decide)
  ·exact absurd h1 (by decide)
 obtain⟨ha,hb⟩:=pR (fx:=fx) h h32
 have hle:=jr (fx:=fx) (p:=aL) (Nat.le_of_lt hn)
 have hle2:=ii (fx:=fx) hle
 have hle3:=jr (fx:=fx) (p:=aL) hle2
 have hend:numEnd fx s n≤s.length:=by unfold numEnd;split<;>assumption
 have hgt:n<numEnd fx s n:=by
  have g1:=nt (fx:=fx) (p:=aL) (s:=s) (n:=n)
  have g2:=pS (fx:=fx) (s:=s) (n:=runE fx aL s n)
  have g3:=nt (fx:=fx) (p:=aL) (s:=s) (n:=atE fx s (runE fx aL s n))
  rcases hc with hd|hd
  ·have:=Kf (fx:=fx) h h32 h0 hd
   unfold numEnd;split<;>omega
  ·obtain⟨e1,e2⟩:=rR (fx:=fx) (s:=s) (p:=aL) (n:=n) (by rw[ha,hd];decide)
   have hdot:dy fx s n=true:=by
    unfold dy cx
    rw[e2,ha,e1,hd]
    simp
   unfold numEnd
   rw[if_pos hdot,e2,hb]
   rw[e2,hb]at g3
   omega
 have hx:=Q1 (fx:=fx) (s:=s) hend
 unfold ez
 simp only
 split
 ·cases cX (cx fx s n)with
  |ok t=>exact⟨hgt,hend,by simp;omega⟩
  |error e=>trivial
 ·cases hr:gt (cx fx s n) (fO fx s n) (bg fx s (numEnd fx s n)).2.1 (bg fx s (numEnd fx s n)).1 (bg fx s (numEnd fx s n)).2.2.2 (if(bg fx s (numEnd fx s n)).2.2.2 then(bg fx s (numEnd fx s n)).2.2.1 else numEnd fx s n)with
  |error e=>trivial
  |ok q=>
   have:=Sf hr
   refine⟨?_,?_,?_⟩
   ·show n<q.2
    rw[this];split<;>omega
   ·show q.2≤s.length
    rw[this];split<;>omega
   ·show 0+n≤q.2
    rw[this];split<;>omega
theorem HY {n:Nat}(hn:n<s.length):Km s n (eF s n):=by
 unfold eF eV
 cases hq:cV ((s[n]?).getD 0) (s.drop (n+1))with
 |none=>trivial
 |some x=>
  obtain⟨t,k⟩:=x
  have:=o6 _ _ (Nat.le_refl _) t k hq
  rw[List.length_drop]at this
  simp only
  split
  ·rename_i q heq
   split at heq
   ·cases heq
   ·injection heq with heq
    subst heq
    refine⟨?_,?_,?_⟩
    ·show n<n+1+k
     omega
    ·show n+1+k≤s.length
     omega
    ·show (List.range' n (n+1+k-n)).length+n≤n+1+k
     simp;omega
  ·trivial
theorem Uy {n:Nat}{c:UInt8}(h:s[n]? =some c)(hc:c≠32):Km s n (noK (gd fx s n)):=by
 have hn:=gZ h
 obtain⟨ha,hb⟩:=pR (fx:=fx) h hc
 have g1:=pS (fx:=fx) (s:=s) (n:=n+1)
 have g2:=ii (fx:=fx) (s:=s) (n:=n+1) hn
 unfold gd
 simp only[hb]
 split
 ·exact⟨by show n<atE fx s (n+1);omega,g2,by show 0+n≤atE fx s (n+1);omega⟩
 ·split
  ·exact⟨by show n<atE fx s (n+1);omega,g2,by show 0+n≤atE fx s (n+1);omega⟩
  ·split
   ·exact⟨by show n<n+1;omega,hn,by show 0+n≤n+1;omega⟩
   ·split
    ·exact⟨by show n<n+1;omega,hn,by show 0+n≤n+1;omega⟩
    ·trivial
theorem zG {n:Nat}{c:UInt8}(h:s[n]? =some c)(hc:c≠32):Km s n (eW fx s out n):=by
 have hn:=gZ h
 obtain⟨ha,hb⟩:=pR (fx:=fx) h hc
 unfold eW
 rw[h,Option.getD_some]
 split
 ·rename_i hh
  simp only[Bool.and_eq_true,decide_eq_true_eq]at hh
  obtain⟨_,hN⟩:=hh
  unfold pm
  split
  ·trivial
  ·rename_i hlen
   have g1:=nt (fx:=fx) (p:=aL) (s:=s) (n:=n)
   have g2:=pS (fx:=fx) (s:=s) (n:=runE fx aL s n)
   have g3:runE fx aL s n≤holE fx s n:=g2
   have g4:=hN.2.1
   refine⟨?_,?_,?_⟩
   ·show n<holE fx s n+(gq fx s n).toNat
    omega
   ·show holE fx s n+(gq fx s n).toNat≤s.length
    omega
   ·show (List.range' (holE fx s n) (gq fx s n).toNat).length+n≤holE fx s n+(gq fx s n).toNat
    simp;omega
 ·unfold gk
  split
  ·rename_i hl
   have h0:c≠0:=by rintro rfl;exact absurd hl (by decide)
   have hp:bE c=true:=by unfold bE;rw[hl];rfl
   have g1:=Kf (fx:=fx) h hc h0 hp
   have g2:=jr (fx:=fx) (p:=bE) (Nat.le_of_lt hn)
   split
   ·trivial
   ·exact⟨by show n<runE fx bE s n;omega,g2,by show 0+n≤runE fx bE s n;omega⟩
  ·split
   ·rename_i hd
    refine HR h ?_
    rw[Bool.or_eq_true,Bool.and_eq_true,decide_eq_true_eq]at hd
    rcases hd with hd|hd
    ·exact Or.inl hd
    ·exact Or.inr hd.1
   ·split
    ·rename_i h46
     subst h46
     split
     ·have e:cI fx s n=(dG fx s n,dotEnd fx s n,m9 fx s n):=by unfold cI;rw[if_pos ha]
      rw[e]
      have g1:=nt (fx:=fx) (p:=bh) (s:=s) (n:=atE fx s n)
      have g2:=pS (fx:=fx) (s:=s) (n:=runE fx bh s (atE fx s n))
      have g3:=ii (fx:=fx) (Nat.le_of_lt hn)
      have g4:=jr (fx:=fx) (p:=bh) g3
      have g5:=ii (fx:=fx) g4
      have g6:runE fx bh s (atE fx s n)≤dotEnd fx s n:=g2
      rw[hb]at g1 g6
      exact⟨by show n<dotEnd fx s n;omega,g5,by show 0+n≤dotEnd fx s n;omega⟩
     ·trivial
    ·split
     ·exact HY hn
     ·exact Uy h hc
def dz (fx:Bool)(s:List UInt8):Nat→Nat→List Tok→List Nat→Option (Nat×Int)×List Tok×List Nat
 |0,_,out,kept=>(none,out,kept)
 |k+1,n,out,kept=>
  if s.length≤n+bq (s.drop n)then(none,out,kept)
  else match eW fx s out (n+bq (s.drop n))with
   | .error e=>(some (n+bq (s.drop n),e),out,kept)
   | .ok q=>dz fx s k q.2.1 (out++[q.1]) (kept++q.2.2)
def Q0 (b:Mu)(s:List UInt8)(fx:Bool):Option (Nat×Int)×List Tok×List Nat→St
 |(none,out,kept)=>tz 0 0 (scM b s fx out kept)
 |(some (n,e),out,kept)=>tA (iG e) (n:Int) 0 (scM b s fx out kept)
theorem Rd {l i:Nat}{r:List LV}(h:Sc μ l i s fx r)(hs:s.length≤1000000): ∀(k n:Nat),n+k=s.length→z7 (ev E) l i (n:Int) 0 μ=some (m5 l i ((n+bq (s.drop n):Nat):Int) 0 μ):=by
 intro k
 induction k with
 |zero=>
  intro n hk
  refine aW ?_
  rw[Bn,h]
  simp only[aa,gh,dn,ah]
  have:List.drop n s=[]:=List.drop_eq_nil_of_le (by omega)
  have h1:decide ((n:Int)<(s.length:Int))=false:=by simp;omega
  rw[h1,this]
  simp[bq]
 |succ k ih=>
  intro n hk
  refine aW ?_
  rw[Bn,h]
  simp only[aa,gh,dn,ah]
  have h1:decide ((n:Int)<(s.length:Int))=true:=by simp;omega
  have hn:n<s.length:=by omega
  rw[h1,mL,List.getElem?_eq_getElem hn,aa]
  have hd:List.drop n s=s[n]::List.drop (n+1) s:=List.drop_eq_getElem_cons hn
  have e:IntKind.wrap .i64 ((n:Int)+1)=((n+1:Nat):Int):=by rw[bB (by omega) (by omega)];omega
  have e32: ∀c:UInt8,decide ((c.toNat:Int)=32)=decide (c=32):=fun c=>cq (k:=32) (by omega)
  rw[e,ih (n+1) (by omega),e32,hd,bq]
  by_cases hc:s[n]=32
  ·simp only[hc,decide_true,cond_true,if_true]
   congr 2
   omega
  ·simp only[hc,decide_false,cond_false,cond_true,if_false]
   rfl
theorem yk {n:Nat}(h:n+bq (s.drop n)<s.length): ∃c,s[n+bq (s.drop n)]? =some c∧c≠32:=by
 refine⟨s[n+bq (s.drop n)],List.getElem?_eq_getElem h,?_⟩
 have hd:=List.drop_eq_getElem_cons h
 refine pg (s.drop n) _ (s.drop (n+bq (s.drop n)+1)) ?_
 rw[List.drop_drop]
 exact hd
theorem TV (hs:s.length≤200000): ∀(k n:Nat) (out:List Tok) (kept:List Nat),s.length<n+k→n≤s.length→out.length≤n→kept.length≤n→
  CK (ev E) b.length 0 (n:Int) 0 (scM b s fx out kept)=some (Q0 b s fx (dz fx s k n out kept)):=by
 intro k
 induction k with
 |zero=>intro n out kept hk hn ho hq;omega
 |succ k ih=>
  intro n out kept hk hn ho hq
  have h:=mb (b:=b) (s:=s) (fx:=fx) (out:=out) (kept:=kept)
  have hb:=oO (s.drop n)
  rw[List.length_drop]at hb
  refine aW ?_
  rw[RX,Rd h (by omega) (s.length-n) n (by omega),aa,EZ,h,gh,dn,aa,ah,aa]
  unfold dz
  by_cases hm:s.length≤n+bq (s.drop n)
  ·have:decide ((s.length:Int)≤((n+bq (s.drop n):Nat):Int))=true:=by simp;omega
   rw[this,cond_true,if_pos hm]
   rfl
  ·have:decide ((s.length:Int)≤((n+bq (s.drop n):Nat):Int))=false:=by simp;omega
   rw[this,cond_false,if_neg hm]
   obtain⟨c,hc1,hc2⟩:=yk (s:=s) (n:=n) (by omega)
   have hf:=zG (fx:=fx) (out:=out) hc1 hc2
   obtain⟨m,hmd⟩: ∃m,m=n+bq (s.drop n):=⟨_,rfl⟩
   rw[←hmd]at hm hf ⊢
   cases ht:eW fx s out m with
   |error e=>
    have hG:Cu (ev E) b.length 0 (m:Int) 0 (scM b s fx out kept)=some (sR (iG e) (m:Int) 0 (scM b s fx out kept)):=by
     refine aR ?_
     rw[Ef,OV hs (by omega) (by omega) (by omega),ht]
     rfl
    rw[hG,aa,GG]
    rfl
   |ok q=>
    rw[ht]at hf
    obtain⟨f1,f2,f3⟩:=hf
    have hG:Cu (ev E) b.length 0 (m:Int) 0 (scM b s fx out kept)=some (sQ b.length 0 (q.2.1:Int) 0 (scM b s fx (out++[q.1]) (kept++q.2.2))):=by
     refine aR ?_
     rw[Ef,OV hs (by omega) (by omega) (by omega),ht]
     simp only[AB,ad,ao,aa,ak,am,ah,ae,aj,aA,cond_true,cond_false,Bool.not_true,Bool.not_false,av,au,aq,ef]
     unfold scM
     rw[qm]
     unfold scO
     rw[X3,aa,PY,aa]
     have ha:[CV.agg [CV.int .i64 q.1.kind,CV.int .i64 q.1.type,CV.str q.1.text]]=aV [q.1]:=rfl
     have hc:CV.agg [CV.int .i64 q.1.kind,CV.int .i64 q.1.type,CV.str q.1.text]=q.1.cv:=rfl
     rw[ha,ye (by simp;omega),aA]
     have hbl:b7 (b.length+1) (aV out++aV [q.1])=true:=by
      have:aV out++aV [q.1]=aV (out++[q.1]):=by simp[aV]
      rw[this];exact pe _
     rw[hbl,aA,qn,qm,Wz,aa,qn]
     have e2:aV [q.1]=[q.1.cv]:=rfl
     rw[e2,Wu]
    rw[hG,aa,GF,ih q.2.1 _ _ (by omega) f2 (by simp;omega) (by simp;omega)]
theorem AE (b:Mu)(x:Lam):jp (b++[x])=some (b,x):=by simp[jp]
theorem Qr {e:Int}:dY E.P 25 (.cells [LV.int .i64 (0:Int)]) 0 (LV.int .i64 e)=some (.cells [LV.int .i64 e]):=by kernel_rfl
theorem Fm {e:Int}:bv E.P 25 (aG [Ob.cells [LV.int .i64 e]] 0) 0=some (LV.int .i64 e):=by kernel_rfl
def cz:Option (Nat×Int)→Nat×Int
 |none=>(0,0)
 |some q=>q
theorem Vz (hs:s.length≤200000){r:Option (Nat×Int)×List Tok×List Nat}(hr:dz fx s (s.length+1) 0 [] []=r):
  (ev E).call 152 [LV.cv (CV.ref b.length 0 0)] (scM b s fx [] [])=some (.ret (.ltup [LV.int .i64 ((cz r.1).1:Int),LV.int .i64 (cz r.1).2]) (scM b s fx r.2.1 r.2.2)):=by
 refine aJ ?_
 have hl:=TV (b:=b) (fx:=fx) hs (s.length+1) 0 [] [] (by omega) (by omega) (by simp) (by simp)
 have e0:((0:Nat):Int)=0:=rfl
 rw[hr,e0]at hl
 rw[XC,hl,aa]
 obtain⟨x,o,q⟩:=r
 cases x with
 |none=>
  simp only[Q0]
  have hd:(ev E).dcall 168 none [LV.cv (CV.ref (scM b s fx o q).length 0 0)] (scM b s fx o q++[[Ob.cells [LV.int .i64 0]]])=some (scM b s fx o q++[[Ob.cells [LV.int .i64 0]]]):=xi (by rw[T8])
  rw[Hv,hd,aa,AE,aa]
  simp only[Fm,aa,cz]
  rfl
 |some w=>
  obtain⟨n,e⟩:=w
  simp only[Q0]
  have hd:(ev E).dcall 168 (some (iG e)) [LV.cv (CV.ref (scM b s fx o q).length 0 0)] (scM b s fx o q++[[Ob.cells [LV.int .i64 0]]])=some (scM b s fx o q++[[Ob.cells [LV.int .i64 e]]]):=by
   refine xi ?_
   unfold iG
   rw[T9,qm,Qr,aa,qn]
  rw[Hw,hd,aa,AE,aa]
  simp only[Fm,aa,cz]
  rfl
def fN (s:List UInt8):Bool:= !(s.any fun b=>decide (b.toNat<32)||decide (126<b.toNat))
def bZ (s:List UInt8):Int:=if 1320<s.length then 8 else if fN s then 0 else 3
theorem D2 {g:FuncId}{p:UInt8→Bool}(hg:mK g=some p):(ev E).call 131 [LV.str s,LV.cv (CV.clo g [])] μ=some (.ret (LV.bool (s.any p)) μ):=by
 refine eA (g:=io mK) (by kernel_rfl) ?_
 simp only[io,ak,aa,aj,ah,hg]
theorem VB:(ev E).call 167 [LV.str s] μ=some (.ret (LV.bool (fN s)) μ):=by
 refine aJ ?_
 rw[XF,D2 (g:=186) rfl]
 simp only[ad,ao,aa,ak,am,ah,ae,aj,aA,cond_true,cond_false,Bool.not_true,Bool.not_false,av,au,aq]
 rfl
theorem Vy:(ev E).call 151 [LV.str s] μ=some (.ret (LV.int .i64 (bZ s)) μ):=by
 refine aJ ?_
 rw[XB,VB]
 simp only[ad,ao,aa,ak,am,ah,ae,aj,aA,cond_true,cond_false,Bool.not_true,Bool.not_false,av,au,aq]
 unfold bZ
 by_cases h:1320<s.length
 ·have:decide ((1320:Int)<(s.length:Int))=true:=by simp;omega
  rw[this,if_pos h]
  rfl
 ·have:decide ((1320:Int)<(s.length:Int))=false:=by simp;omega
  rw[this,if_neg h]
  cases fN s<;>rfl
structure Scan where
 toks:List Tok
 kept:List Nat
 n:Nat
 e:Int
def bx (fx:Bool)(s:List UInt8):Scan:=
 if bZ s=0 then
  let r:=dz fx s (s.length+1) 0 [] []
  if(cz r.1).2=0 then(if 300<r.2.1.length then⟨r.2.1,r.2.2,0,8⟩else⟨r.2.1,r.2.2,r.2.1.length,0⟩)else⟨r.2.1,r.2.2,(cz r.1).1,(cz r.1).2⟩
 else⟨[],[],0,bZ s⟩
def ne (fx:Bool)(s:List UInt8):List CV:=if bZ s=0 then [CV.str s,CV.bool fx,CV.sl (aV (bx fx s).toks),CV.sl (bH (bx fx s).kept)]else [CV.str s,CV.bool fx,CV.v (.slice none 0 0),CV.v (.slice none 0 0)]
theorem Wg {α:Type}{k:Lam→Option α}:Ml [(0,[0,0,1,1])] [scO s fx out kept] k=k [.cells [LV.str s,LV.bool fx,.osl (aV out),.osl (bH kept)]]:=by
 have h1:=PY (out:=out)
 have h2:=PX (kept:=kept)
 unfold scO
 simp only[Ml,aG,List.getElem?_cons_zero,gF,B8,h1,h2,aa,List.set_cons_zero]
theorem U0 {n:Nat}:below n (CV.view [CV.str s,CV.bool fx,CV.sl (aV out),CV.sl (bH kept)])=true:=by
 simp only[below,b7]
 rw[pe,pd]
theorem OR (hs:s.length≤200000):(ev E).call 127 [LV.str s,LV.bool fx] μ=some (.ret (.ltup [LV.cv (CV.view (ne fx s)),LV.int .i64 ((bx fx s).n:Int),LV.int .i64 (bx fx s).e]) μ):=by
 refine aJ ?_
 rw[Xq,Vy]
 simp only[ad,ao,aa,ak,am,ah,ae,aj,aA,cond_true,cond_false,Bool.not_true,Bool.not_false,av,au,aq]
 by_cases ht:bZ s=0
 ·have:decide (bZ s=0)=true:=by simp[ht]
  rw[this,Bool.not_true,cond_false]
  obtain⟨r,hr⟩: ∃r,dz fx s (s.length+1) 0 [] []=r:=⟨_,rfl⟩
  have hsc:bx fx s=if(cz r.1).2=0 then(if 300<r.2.1.length then⟨r.2.1,r.2.2,0,8⟩else⟨r.2.1,r.2.2,r.2.1.length,0⟩)else⟨r.2.1,r.2.2,(cz r.1).1,(cz r.1).2⟩:=by
   unfold bx;rw[if_pos ht,hr]
  have htk:(bx fx s).toks=r.2.1∧(bx fx s).kept=r.2.2:=by
   rw[hsc];split
   ·split<;>exact⟨rfl,rfl⟩
   ·exact⟨rfl,rfl⟩
  have hC:ne fx s=[CV.str s,CV.bool fx,CV.sl (aV r.2.1),CV.sl (bH r.2.2)]:=by unfold ne;rw[if_pos ht,htk.1,htk.2]
  have hl:=Vz (b:=μ) (fx:=fx) hs hr
  have hlen:(aV r.2.1).length=r.2.1.length:=by simp[aV]
  have h5:MN (ev E) s fx μ=some (if(cz r.1).2=0∧ ¬300<r.2.1.length then sI s fx (aV r.2.1) (bH r.2.2) ((bx fx s).n:Int) (bx fx s).e .dead μ else oy s fx (aV r.2.1) (bH r.2.2) ((bx fx s).n:Int) (bx fx s).e μ):=by
   refine aR ?_
   have e0:μ++[[Ob.cells [LV.str s,LV.bool fx,LV.cv (CV.v (.slice none 0 0)),LV.cv (CV.v (.slice none 0 0))]]]=scM μ s fx [] []:=rfl
   rw[Rv,e0,hl]
   simp only[ad,ao,aa,ak,am,ah,ae,aj,aA,cond_true,cond_false,Bool.not_true,Bool.not_false,av,au,aq]
   unfold scM
   rw[AE,aa,Wg]
   by_cases he:(cz r.1).2=0
   ·have h6:Cs (ev E) ((cz r.1).1:Int) (cz r.1).2 [.cells [LV.str s,LV.bool fx,.osl (aV r.2.1),.osl (bH r.2.2)]] μ=some (sL s fx (aV r.2.1) (bH r.2.2) μ):=by
     refine aR ?_
     have:decide ((cz r.1).2=0)=true:=by simp[he]
     rw[Ed,this]
     rfl
    rw[h6,aa,Gz]
    rw[hsc,if_pos he]
    by_cases h3:300<r.2.1.length
    ·have h8:Ct (ev E) [.cells [LV.str s,LV.bool fx,.osl (aV r.2.1),.osl (bH r.2.2)]] μ=some (sM s fx (aV r.2.1) (bH r.2.2) 0 8 μ):=by
      refine aR ?_
      have:decide ((300:Int)<((aV r.2.1).length:Int))=true:=by rw[hlen];simp;omega
      rw[Ee,this]
      rfl
     rw[h8,aa,GA,if_pos h3,if_neg (by simp[h3])]
     rfl
    ·have h8:Ct (ev E) [.cells [LV.str s,LV.bool fx,.osl (aV r.2.1),.osl (bH r.2.2)]] μ=some (sN s fx (aV r.2.1) (bH r.2.2) (r.2.1.length:Int) 0 .dead μ):=by
      refine aR ?_
      have:decide ((300:Int)<((aV r.2.1).length:Int))=false:=by rw[hlen];simp;omega
      have h10:Im (ev E) s fx (aV r.2.1) (bH r.2.2) [Ob.dead] μ=some (qA s fx (aV r.2.1) (bH r.2.2) (r.2.1.length:Int) 0 .dead μ):=by
       refine aR ?_
       rw[PB,hlen]
      rw[Ee,this,cond_false,h10,aa,EN]
     rw[h8,aa,GB,if_neg h3,if_pos ⟨he,h3⟩]
   ·have h6:Cs (ev E) ((cz r.1).1:Int) (cz r.1).2 [.cells [LV.str s,LV.bool fx,.osl (aV r.2.1),.osl (bH r.2.2)]] μ=some (sJ s fx (aV r.2.1) (bH r.2.2) ((cz r.1).1:Int) (cz r.1).2 μ):=by
     refine aR ?_
     have:decide ((cz r.1).2=0)=false:=by simp[he]
     rw[Ed,this]
     rfl
    rw[h6,aa,Gy,hsc,if_neg he,if_neg (by simp[he])]
  rw[h5,aa]
  have:gn μ.length (LV.ltup [LV.cv (CV.view [CV.str s,CV.bool fx,CV.sl (aV r.2.1),CV.sl (bH r.2.2)]),LV.int .i64 ((bx fx s).n:Int),LV.int .i64 (bx fx s).e])=true:=by
   simp only[gn,List.all_cons,mr,U0]
   rfl
  split
  ·rw[Gx,this,aA,hC]
  ·rw[Gw,this,aA,hC]
 ·have:decide (bZ s=0)=false:=by simp[ht]
  have hC:ne fx s=[CV.str s,CV.bool fx,CV.v (.slice none 0 0),CV.v (.slice none 0 0)]:=by unfold ne;rw[if_neg ht]
  have hsc:bx fx s=⟨[],[],0,bZ s⟩:=by unfold bx;rw[if_neg ht]
  rw[this,Bool.not_false,cond_true,hC,hsc]
  rfl
def eI (fx:Bool)(s:List UInt8):List Tok:=if(bx fx s).e=0 then(bx fx s).toks else []
theorem qg (h:(bx fx s).e=0):bZ s=0∧(bx fx s).n=(bx fx s).toks.length∧ne fx s=[CV.str s,CV.bool fx,CV.sl (aV (bx fx s).toks),CV.sl (bH (bx fx s).kept)]:=by
 by_cases ht:bZ s=0
 ·refine⟨ht,?_,by unfold ne;rw[if_pos ht]⟩
  unfold bx at h ⊢
  rw[if_pos ht]at h ⊢
  simp only at h ⊢
  by_cases he:(cz (dz fx s (s.length+1) 0 [] []).1).2=0
  ·rw[if_pos he]at h ⊢
   by_cases h3:300<(dz fx s (s.length+1) 0 [] []).2.1.length
   ·rw[if_pos h3]at h;exact absurd h (by simp)
   ·rw[if_neg h3]
  ·rw[if_neg he]at h
   exact absurd h he
 ·unfold bx at h
  rw[if_neg ht]at h
  exact absurd h ht
theorem yM {l:List CV}:eU (LV.cv (CV.view l))=some false:=rfl
theorem A7 {l:List CV}:dq (LV.cv (eM (CV.view l)))=some l:=rfl
theorem iQ {t:List UInt8}:aN (LV.cv (CV.str t))=some t:=rfl
theorem A5 {t:Bool}:aM (LV.cv (CV.bool t))=some t:=rfl
theorem W1 (hs:s.length≤200000):(ev E).call 85 [LV.str s,LV.bool fx] μ=some (.ret (.ltup [if(bx fx s).e=0 then LV.cv (CV.sl (aV (bx fx s).toks))else E5,LV.int .i64 ((bx fx s).n:Int),LV.int .i64 (bx fx s).e]) μ):=by
 refine aJ ?_
 rw[Zq,OR hs]
 simp only[ad,ao,aa,ak,am,ah,ae,aj,aA,cond_true,cond_false,Bool.not_true,Bool.not_false,av,au,aq,j8]
 by_cases he:(bx fx s).e=0
 ·have h1:decide ((bx fx s).e=0)=true:=by simp[he]
  obtain⟨_,_,hC⟩:=qg he
  have hG:ST (ev E) (CV.view (ne fx s)) ((bx fx s).n:Int) μ=some (wQ (aV (bx fx s).toks) ((bx fx s).n:Int) 0 μ):=by
   refine aR ?_
   rw[Uq,yM,aa,Bool.not_false,aA,A7,aa,hC]
   simp only[ad,ao,aa,ak,am,ah,ae,aj,aA,cond_true,cond_false,Bool.not_true,Bool.not_false,av,au,aq,iQ,A5]
  rw[h1,Bool.not_true,cond_false,hG,aa,LR,he]
  simp
 ·have h1:decide ((bx fx s).e=0)=false:=by simp[he]
  rw[h1,Bool.not_false,cond_true,if_neg he]
  rfl
theorem WP (hs:s.length≤200000):(ev E).call 51 [LV.str s] μ=some (.ret (.ltup [LV.cv (CV.sl (aV (eI false s))),LV.int .i64 ((bx false s).n:Int),LV.int .i64 (bx false s).e]) μ):=by
 refine aJ ?_
 rw[Zb,W1 hs]
 unfold eI
 by_cases he:(bx false s).e=0
 ·rw[if_pos he,if_pos he];rfl
 ·rw[if_neg he,if_neg he];rfl
def iq (s:List UInt8):Option Tok:=if(bx false s).e=0∧(bx false s).n=1 then(bx false s).toks[0]? else none
def Wj:Option Tok→List LV
 |some t=>[.cv t.cv,LV.bool true]
 |none=>[.cv Td.cv,LV.bool false]
theorem Vs (hs:s.length≤200000):(ev E).call 134 [LV.str s] μ=some (.ret (.ltup (Wj (iq s))) μ):=by
 refine aJ ?_
 rw[Xr,OR hs]
 simp only[ad,ao,aa,ak,am,ah,ae,aj,aA,cond_true,cond_false,Bool.not_true,Bool.not_false,av,au,aq,j8]
 unfold iq
 by_cases he:(bx false s).e=0
 ·have h1:decide ((bx false s).e=0)=true:=by simp[he]
  rw[h1,Bool.not_true,cond_false]
  by_cases hn:(bx false s).n=1
  ·have h2:decide (((bx false s).n:Int)=1)=true:=by simp[hn]
   obtain⟨_,hl,hC⟩:=qg he
   rw[h2,Bool.not_true,cond_false,if_pos ⟨he,hn⟩]
   obtain⟨t,ht⟩: ∃t,(bx false s).toks=[t]:=by
    rw[hn]at hl
    exact List.length_eq_one_iff.1 hl.symm
   have hG:MO (ev E) (CV.view (ne false s)) 0 0 [] μ=some (sO true t.kind t.type t.text μ):=by
    refine aR ?_
    rw[Rw,yM,aa,Bool.not_false,aA,A7,aa,hC,ht]
    simp only[ad,ao,aa,ak,am,ah,ae,aj,aA,cond_true,cond_false,Bool.not_true,Bool.not_false,av,au,aq,iQ,A5]
    have:bm (aV [t]) (0:Int)=some t.cv:=rfl
    rw[this,aa,ef]
   rw[hG,aa,GC,ht]
   rfl
  ·have h2:decide (((bx false s).n:Int)=1)=false:=by simp;omega
   rw[h2,Bool.not_false,cond_true,if_neg (by simp[hn])]
   rfl
 ·have h1:decide ((bx false s).e=0)=false:=by simp[he]
  rw[h1,Bool.not_false,cond_true,if_neg (by simp[he])]
  rfl
end
end Go.Abs
set_option linter.unusedVariables false
set_option linter.unusedSimpArgs false
namespace Go.Abs
open Go
def MC (a:Nat)(c:UInt8):Nat:=a*10+(c.toNat-48)
def valD (acc:Nat)(l:List UInt8):Nat:=l.foldl MC acc
theorem jT (acc:Nat):valD acc []=acc:=rfl
theorem Qp (c:UInt8)(r:List UInt8)(acc:Nat):valD acc (c::r)=valD (MC acc c) r:=by unfold valD;rw[List.foldl_cons]
theorem dL (c:UInt8)(r:List UInt8)(acc:Nat):valD acc (c::r)=valD (acc*10+(c.toNat-48)) r:=by rw[Qp];unfold MC;exact Eq.refl _
theorem dJ {c:UInt8}:aL c=true↔48≤c.toNat∧c.toNat≤57:=by
 unfold aL
 rw[Bool.and_eq_true,decide_eq_true_eq,decide_eq_true_eq]
theorem FN (c:UInt8)(l:List UInt8): ∀(acc:Nat),valD acc (l++[c])=valD acc l*10+(c.toNat-48):=by
 induction l with
 |nil=>intro acc;rw[List.nil_append,dL,jT,jT]
 |cons d r ih=>intro acc;rw[List.cons_append,dL,dL,ih]
theorem fq: ∀(l:List UInt8) (acc:Nat),(∀b∈l,aL b=true)→acc*10^l.length≤valD acc l∧valD acc l<(acc+1)*10^l.length
 |[],acc,_=>by rw[jT,List.length_nil,Nat.pow_zero];omega
 |c::r,acc,h=>by
  have hc:=dJ.1 (h c List.mem_cons_self)
  obtain⟨h1,h2⟩:=fq r (acc*10+(c.toNat-48)) (fun b hb=>h b (List.mem_cons_of_mem _ hb))
  rw[dL];simp only[List.length_cons,Nat.pow_succ]
  have e1:acc*(10^r.length*10)=(acc*10)*10^r.length:=by rw[Nat.mul_comm (10^r.length) 10,Nat.mul_assoc]
  have e2:(acc+1)*(10^r.length*10)=((acc+1)*10)*10^r.length:=by rw[Nat.mul_comm (10^r.length) 10,Nat.mul_assoc]
  rw[e1,e2]
  refine⟨Nat.le_trans (Nat.mul_le_mul_right _ (by omega)) h1,Nat.lt_of_lt_of_le h2 (Nat.mul_le_mul_right _ (by omega))⟩
theorem vL: ∀(l:List UInt8) (acc:Nat),valD acc l=acc*10^l.length+valD 0 l
 |[],acc=>by simp[jT]
 |c::r,acc=>by
  rw[dL];simp only[List.length_cons,Nat.pow_succ]
  rw[dL c r 0,vL r (acc*10+(c.toNat-48)),vL r (0*10+(c.toNat-48)),Nat.add_mul,Nat.zero_mul,Nat.zero_add,Nat.add_assoc]
  congr 1
  rw[Nat.mul_comm (10^r.length) 10,Nat.mul_assoc]
theorem uO: ∀(l:List UInt8) (acc:Nat),(∀b∈l,aL b=true)→(acc+1)*10^l.length≤10000000000→Lib.parseUint10 acc l= .ok (valD acc l)
 |[],acc,_,_=>rfl
 |c::r,acc,h,hb=>by
  have hc:=dJ.1 (h c List.mem_cons_self)
  have hp:1≤10^r.length:=Nat.pow_pos (by omega)
  have e2:(acc+1)*10^(c::r).length=((acc+1)*10)*10^r.length:=by simp only[List.length_cons,Nat.pow_succ];rw[Nat.mul_comm (10^r.length) 10,Nat.mul_assoc]
  rw[e2]at hb
  have h3:(acc+1)*10≤10000000000:=Nat.le_trans (Nat.le_mul_of_pos_right _ hp) hb
  simp only[Lib.parseUint10,dL]
  rw[if_pos hc,if_neg (by omega),if_neg (by omega)]
  exact uO r _ (fun b hb=>h b (List.mem_cons_of_mem _ hb)) (Nat.le_trans (Nat.mul_le_mul_right _ (by omega)) hb)
theorem jB {l:List UInt8}(h: ∀b∈l,aL b=true)(h1:l≠[])(h2:l.length≤10):Lib.atoiAll l= .ok (valD 0 l:Nat):=by
 cases l with
 |nil=>exact absurd rfl h1
 |cons c r=>
  have hc:=dJ.1 (h c List.mem_cons_self)
  have hb:(0+1)*10^(c::r).length≤10000000000:=by
   have:10^(c::r).length≤10^10:=Nat.pow_le_pow_right (by omega) h2
   omega
  have hp:=uO (c::r) 0 h hb
  have hlt:=(fq (c::r) 0 h).2
  rw[Lib.atoiAll_plain c r (by omega) (by omega)]
  unfold Lib.parseMag
  rw[if_neg (by simp),hp]
  simp only[Lib.signless]
  rw[if_neg (by omega)]
theorem KS {l:List UInt8}(h: ∀b∈l,aL b=true)(h1:l≠[])(h2:l.length≤10):Lib.atoiAll (45::l)= .ok (-(valD 0 l:Nat):Int):=by
 have hb:(0+1)*10^l.length≤10000000000:=by
  have:10^l.length≤10^10:=Nat.pow_le_pow_right (by omega) h2
  omega
 have hp:=uO l 0 h hb
 have hlt:=(fq l 0 h).2
 rw[Lib.atoiAll_minus]
 unfold Lib.parseMag
 rw[if_neg h1,hp]
 simp only[Lib.signed]
 rw[if_neg (by omega)]
def bQ:List UInt8→List UInt8
 |[]=>[]
 |[c]=>[c]
 |c::d::r=>if c=48 then bQ (d::r)else c::d::r
theorem u6: ∀(l:List UInt8),valD 0 (bQ l)=valD 0 l
 |[]=>rfl
 |[c]=>rfl
 |c::d::r=>by
  unfold bQ
  split
  ·rename_i hc
   rw[u6 (d::r)]
   subst hc
   rfl
  ·rfl
theorem u5: ∀(l:List UInt8),∀b∈bQ l,b∈l
 |[],b,hb=>hb
 |[c],b,hb=>hb
 |c::d::r,b,hb=>by
  unfold bQ at hb
  split at hb
  ·exact List.mem_cons_of_mem _ (u5 (d::r) b hb)
  ·exact hb
theorem pb: ∀(l:List UInt8),(bQ l).length≤l.length
 |[]=>Nat.le_refl _
 |[c]=>Nat.le_refl _
 |c::d::r=>by
  unfold bQ
  split
  ·have:=pb (d::r)
   simp only[List.length_cons]at this ⊢
   omega
  ·exact Nat.le_refl _
def Cc (l:List UInt8):Prop:=l.length=1∨ ∃c r,l=c::r∧c≠48
theorem zI: ∀(l:List UInt8),l≠[]→Cc (bQ l)
 |[],h=>absurd rfl h
 |[c],_=>Or.inl rfl
 |c::d::r,_=>by
  unfold bQ
  split
  ·exact zI (d::r) (by simp)
  ·rename_i hc
   exact Or.inr ⟨c,_,rfl,hc⟩
theorem SE {c:UInt8}{r:List UInt8}(h: ∀b∈c::r,aL b=true)(hc:c≠48):1≤valD 0 (c::r):=by
 have h1:=dJ.1 (h c List.mem_cons_self)
 have h2:=(fq r (0*10+(c.toNat-48)) (fun b hb=>h b (List.mem_cons_of_mem _ hb))).1
 have hp:1≤10^r.length:=Nat.pow_pos (by omega)
 have h3:c.toNat≠48:=fun e=>hc (UInt8.toNat.inj (by rw[e];rfl))
 have h4:1≤(0*10+(c.toNat-48))*10^r.length:=Nat.one_le_iff_ne_zero.2 (Nat.mul_ne_zero (by omega) (by omega))
 simp only[dL,jT]
 omega
theorem Af {u d:Nat}(hu:1≤u)(hd:d≤9):Lib.decDigits (u*10+d)=Lib.decDigits u++[UInt8.ofNat (48+d)]:=by
 rw[Lib.decDigits,dif_neg (by omega)]
 have e1:(u*10+d) / 10=u:=by omega
 have e2:(u*10+d) % 10=d:=by omega
 rw[e1,e2]
theorem Bo {c:UInt8}(h:aL c=true):UInt8.ofNat (48+(c.toNat-48))=c:=by
 have h1:=dJ.1 h
 have:48+(c.toNat-48)=c.toNat:=by omega
 rw[this];simp
theorem JE: ∀(n:Nat) (l:List UInt8),l.length=n→(∀b∈l,aL b=true)→Cc l→Lib.decDigits (valD 0 l)=l:=by
 intro n
 induction n with
 |zero=>
  intro l hn _ hl
  rcases hl with h|⟨c,r,rfl,_⟩
  ·omega
  ·simp at hn
 |succ n ih=>
  intro l hn hd hl
  have hne:l≠[]:=by intro h;subst h;simp at hn
  have hsp:=List.dropLast_concat_getLast hne
  have hc:aL (l.getLast hne)=true:=hd _ (List.getLast_mem hne)
  have hc':=dJ.1 hc
  by_cases h0:l.dropLast=[]
  ·rw[h0,List.nil_append]at hsp
   rw[←hsp]
   simp only[dL,jT]
   rw[Lib.decDigits_one (by omega),Nat.zero_mul,Nat.zero_add,Bo hc]
  ·rcases hl with h|⟨c,r,e,hne2⟩
   ·exfalso
    apply h0
    apply List.eq_nil_of_length_eq_zero
    rw[List.length_dropLast]
    omega
   ·have hdl: ∀b∈l.dropLast,aL b=true:=fun b hb=>hd b (List.dropLast_subset _ hb)
    have hll: ∃r',l.dropLast=c::r':=by
     rw[e]at h0 ⊢
     cases r with
     |nil=>simp at h0
     |cons d r=>exact⟨_,rfl⟩
    obtain⟨r',hr'⟩:=hll
    have hp:1≤valD 0 l.dropLast:=by rw[hr']at hdl ⊢; exact SE hdl hne2
    have:=ih l.dropLast (by rw[List.length_dropLast];omega) hdl (Or.inr ⟨c,r',hr',hne2⟩)
    rw[←hsp,FN,Af hp (by omega),this,Bo hc]
theorem Q5 {l:List UInt8}(h: ∀b∈l,aL b=true)(h1:l≠[]):Lib.itoa (valD 0 l:Nat)=bQ l:=by
 unfold Lib.itoa
 rw[if_neg (by omega)]
 have e:((valD 0 l:Nat):Int).toNat=valD 0 (bQ l):=by rw[u6];omega
 rw[e]
 exact JE _ _ rfl (fun b hb=>h b (u5 l b hb)) (zI l h1)
end Go.Abs
set_option linter.unusedVariables false
set_option linter.unusedSimpArgs false
set_option maxRecDepth 100000
namespace Go.Abs
open Go Go.Proofs
section
variable {s:List UInt8}{n:Nat}
theorem dA:atC false s n=(s[n]?).getD 0:=rfl
theorem fA:atE false s n=if n<s.length then n+1 else n:=rfl
theorem uU {p:UInt8→Bool}(hp:p 0=false): ∀(l:List UInt8),fC false p l 0=(l.takeWhile p,(l.takeWhile p).length)
 |[]=>rfl
 |c::r=>by
  have ih:=uU hp r
  unfold fC
  rw[ih]
  by_cases h0:c=0
  ·subst h0
   simp[hp]
  ·have h1:(c != 0)=true:=by simp[h0]
   cases hc:p c
   ·simp[hc]
   ·simp[hc,h1];omega
theorem ke {p:UInt8→Bool}(hp:p 0=false):cK false p s n=(s.drop n).takeWhile p:=by unfold cK;rw[uU hp]
theorem mJ {p:UInt8→Bool}(hp:p 0=false):runE false p s n=n+((s.drop n).takeWhile p).length:=by unfold runE;rw[uU hp]
theorem yK:bh 0=false:=by decide
theorem yJ:aL 0=false:=by decide
theorem DZ:bE 0=false:=by decide
def bG (s:List UInt8)(n:Nat)(w:List UInt8):Bool:=decide (n+w.length≤s.length)&&decide (((s.drop n).take w.length).map upB=w)
def digR (s:List UInt8)(n:Nat):Nat:=((s.drop n).takeWhile aL).length
theorem no:cK false aL s n=(s.drop n).take (digR s n)∧runE false aL s n=n+digR s n:=by
 rw[ke yJ,mJ yJ]
 refine⟨?_,rfl⟩
 unfold digR
 exact(List.prefix_iff_eq_take.1 (List.takeWhile_prefix _))
def OF (w:List UInt8):Prop:= ∃v,w=46::v++[46]∧ ∀b∈v,65≤b.toNat∧b.toNat≤90
theorem Ki: ∀i:Fin 256,(upB (UInt8.ofNat i.val)=46→i.val=46)∧(65≤(upB (UInt8.ofNat i.val)).toNat∧(upB (UInt8.ofNat i.val)).toNat≤90→bh (UInt8.ofNat i.val)=true):=by decide
theorem Kh {c:UInt8}(h:upB c=46):c=46:=by
 have:=(Ki ⟨c.toNat,c.toNat_lt⟩).1 (by simpa using h)
 exact UInt8.toNat.inj this
theorem UR {c:UInt8}(h:65≤(upB c).toNat∧(upB c).toNat≤90):bh c=true:=by
 have:=(Ki ⟨c.toNat,c.toNat_lt⟩).2 (by simpa using h)
 simpa using this
theorem iu {p:UInt8→Bool}: ∀(l:List UInt8),∀c∈l.takeWhile p,p c=true
 |[],c,h=>by simp at h
 |d::r,c,h=>by
  rw[List.takeWhile_cons]at h
  split at h
  ·rename_i hd
   rcases List.mem_cons.1 h with rfl|h
   ·exact hd
   ·exact iu r c h
  ·simp at h
theorem qj {p:UInt8→Bool}{d:UInt8}(hd:p d=false): ∀(v r:List UInt8),(∀b∈v,p b=true)→(v++d::r).takeWhile p=v
 |[],r,_=>by simp[hd]
 |c::v,r,h=>by
  have hc:=h c List.mem_cons_self
  rw[List.cons_append,List.takeWhile_cons,hc]
  simp only[if_true]
  rw[qj hd v r (fun b hb=>h b (List.mem_cons_of_mem _ hb))]
theorem Bf {v w:List UInt8}: ∀{l:List UInt8},l.map upB=v++w→ ∃a b,l=a++b∧a.map upB=v∧b.map upB=w:=by
 intro l h
 obtain⟨a,b,e,h1,h2⟩:=List.map_eq_append_iff.1 h
 exact⟨a,b,e,h1,h2⟩
theorem jJ {w:List UInt8}(hw:OF w)(h:bG s n w=true):atC false s n=46∧dG false s n=w∧atC false s (runE false bh s (atE false s n))=46∧dotEnd false s n=n+w.length:=by
 obtain⟨v,rfl,hv⟩:=hw
 simp only[bG,Bool.and_eq_true,decide_eq_true_eq]at h
 obtain⟨hlen,hm⟩:=h
 rw[List.cons_append]at hm hlen
 simp only[List.length_cons,List.length_append,List.length_nil]at hlen hm
 obtain⟨a,b,he,ha,hb⟩:=Bf (v:=[46]) (w:=v++[46]) hm
 obtain⟨b1,b2,he2,hb1,hb2⟩:=Bf hb
 obtain⟨x,rfl⟩: ∃x,a=[x]:=by
  cases a with
  |nil=>simp at ha
  |cons x t=>cases t with
   |nil=>exact⟨x,rfl⟩
   |cons y t=>simp at ha
 obtain⟨y,rfl⟩: ∃y,b2=[y]:=by
  cases b2 with
  |nil=>simp at hb2
  |cons x t=>cases t with
   |nil=>exact⟨x,rfl⟩
   |cons y t=>simp at hb2
 have hx:x=46:=Kh (by simpa using ha)
 have hy:y=46:=Kh (by simpa using hb2)
 subst hx hy
 have hb1l:b1.length=v.length:=by rw[←hb1,List.length_map]
 have hlet: ∀c∈b1,bh c=true:=by
  intro c hc
  exact UR (hv _ (by rw[←hb1];exact List.mem_map_of_mem hc))
 have hd:s.drop n=46::(b1++46::(s.drop (n+v.length+2))):=by
  have h1:=List.take_append_drop (v.length+(0+1)+1) (s.drop n)
  rw[he,he2,List.drop_drop]at h1
  rw[←h1]
  simp only[List.cons_append,List.nil_append,List.append_assoc]
  congr 4
 have hn:n<s.length:=by omega
 have h0:s[n]? =some 46:=by
  have:(s.drop n)[0]? =some 46:=by rw[hd];rfl
  rw[List.getElem?_drop]at this
  simpa using this
 have hd1:s.drop (n+1)=b1++46::(s.drop (n+v.length+2)):=by
  have:(s.drop n).drop 1=b1++46::(s.drop (n+v.length+2)):=by rw[hd];rfl
  rw[List.drop_drop]at this
  exact this
 have hr:(s.drop (n+1)).takeWhile bh=b1:=by rw[hd1];exact qj (by decide) _ _ hlet
 have hE:atE false s n=n+1:=by rw[fA,if_pos hn]
 have hR:runE false bh s (n+1)=n+1+v.length:=by rw[mJ yK,hr,hb1l]
 have h46:s[n+1+v.length]? =some 46:=by
  have:(s.drop (n+1))[b1.length]? =some 46:=by rw[hd1,List.getElem?_append_right (Nat.le_refl _),Nat.sub_self];rfl
  rw[List.getElem?_drop,hb1l]at this
  exact this
 refine⟨by rw[dA,h0];rfl,?_,?_,?_⟩
 ·unfold dG
  rw[hE,ke yK,hr]
  have:up b1=v:=by
   unfold up
   rw[lN b1 (fun b hb=>lU (hlet b hb)),hb1]
  rw[this];rfl
 ·rw[hE,hR,dA,h46];rfl
 ·unfold dotEnd
  rw[hE,hR,fA,if_pos (by omega)]
  simp only[List.length_append,List.length_cons,List.length_nil]
  omega
theorem BO {w:List UInt8}(h0:atC false s n=46)(h1:dG false s n=w)(h2:atC false s (runE false bh s (atE false s n))=46):bG s n w=true:=by
 have hn:n<s.length:=by
  rcases Nat.lt_or_ge n s.length with h|h
  ·exact h
  ·rw[dA,List.getElem?_eq_none h]at h0;simp at h0
 have hE:atE false s n=n+1:=by rw[fA,if_pos hn]
 rw[hE,mJ yK,dA]at h2
 have hg:s[n]? =some 46:=by
  rw[dA,List.getElem?_eq_getElem hn]at h0
  rw[List.getElem?_eq_getElem hn]
  simpa using h0
 have hd:s.drop n=46::s.drop (n+1):=by
  rw[List.drop_eq_getElem_cons hn]
  rw[List.getElem?_eq_getElem hn]at hg
  injection hg with hg
  rw[hg]
 obtain⟨v,hv⟩: ∃v,v=(s.drop (n+1)).takeWhile bh:=⟨_,rfl⟩
 rw[←hv]at h2
 have hm:n+1+v.length<s.length:=by
  rcases Nat.lt_or_ge (n+1+v.length) s.length with h|h
  ·exact h
  ·rw[List.getElem?_eq_none h]at h2;simp at h2
 have hg2:s[n+1+v.length]=46:=by
  rw[List.getElem?_eq_getElem hm]at h2
  simpa using h2
 have hp:s.drop (n+1)=v++s.drop (n+1+v.length):=by
  have h3:v <+: s.drop (n+1):=by rw[hv];exact List.takeWhile_prefix _
  have h4:=List.prefix_iff_eq_append.1 h3
  rw[List.drop_drop]at h4
  exact h4.symm
 have hd2:s.drop (n+1+v.length)=46::s.drop (n+1+v.length+1):=by rw[List.drop_eq_getElem_cons hm,hg2]
 have hlet: ∀c∈v,bh c=true:=by
  intro c hc
  rw[hv]at hc
  exact iu _ c hc
 have hT:dG false s n=[46]++v.map upB++[46]:=by
  unfold dG
  rw[hE,ke yK,←hv]
  unfold up
  rw[lN v (fun b hb=>lU (hlet b hb))]
 have hwl:w.length=v.length+2:=by rw[←h1,hT];simp
 simp only[bG,Bool.and_eq_true,decide_eq_true_eq]
 refine⟨by omega,?_⟩
 rw[hwl,hd,hp,hd2]
 have e:(46::(v++46::s.drop (n+1+v.length+1)))=(46::v++[46])++s.drop (n+1+v.length+1):=by simp
 rw[e,List.take_left' (by simp),←h1,hT]
 simp[upB]
end
end Go.Abs
set_option linter.unusedVariables false
set_option linter.unusedSimpArgs false
set_option maxRecDepth 100000
namespace Go.Abs
open Go Go.Proofs
section
variable {μ:Mu}
theorem cj {n m:Nat}(h:n<m):decide ((n:Int)<(m:Int))=true:=by simp;omega
theorem cw {n m:Nat}(h:m≤n):decide ((n:Int)<(m:Int))=false:=by simp;omega
theorem YZ {n m:Nat}(h:n≤m):decide ((n:Int)≤(m:Int))=true:=by simp;omega
theorem YY {n m:Nat}(h:m<n):decide ((n:Int)≤(m:Int))=false:=by simp;omega
theorem cl {s:List UInt8}{n:Nat}(h:n<s.length):bu s (n:Int)=some s[n]:=by rw[mL,List.getElem?_eq_getElem h]
theorem bM {n:Nat}(h:n≤1000000000):IntKind.wrap .i64 ((n:Int)+1)=((n+1:Nat):Int):=by rw[bB (by omega) (by omega)];omega
theorem iB {n m:Nat}(h:n+m≤1000000000):IntKind.wrap .i64 ((n:Int)+(m:Int))=((n+m:Nat):Int):=by rw[bB (by omega) (by omega)];omega
theorem ZH {n m:Nat}(h:n≤1000000000)(h2:m≤n):IntKind.wrap .i64 ((n:Int) -(m:Int))=((n-m:Nat):Int):=by rw[bB (by omega) (by omega)];omega
theorem To {n:Nat}(h:n≤1000000000)(h2:1≤n):IntKind.wrap .i64 ((n:Int) -1)=((n-1:Nat):Int):=by rw[bB (by omega) (by omega)];omega
theorem QU {s:List UInt8}{n:Nat}(h:n<s.length):dB s (n:Int) ((n+1:Nat):Int)=some [s[n]]:=by
 rw[fM (by omega) (by omega),List.drop_eq_getElem_cons h]
 have:n+1-n=1:=by omega
 rw[this]
 rfl
theorem yQ {c:UInt8}:(ev E).call 106 [LV.int .u8 (c.toNat:Int)] μ=some (.ret (LV.bool (aL c)) μ):=by
 refine aJ ?_
 rw[W6]
 have e1:decide ((48:Int)≤(c.toNat:Int))=decide (48≤c.toNat):=dI 48 _
 have e2:decide ((c.toNat:Int)≤57)=decide (c.toNat≤57):=dI _ 57
 rw[e1,e2]
 unfold aL
 cases decide (48≤c.toNat)<;>rfl
theorem OK {c:UInt8}:(ev E).call 105 [LV.int .u8 (c.toNat:Int)] μ=some (.ret (LV.bool (bh c)) μ):=by
 refine aJ ?_
 rw[W5]
 have e1:decide ((97:Int)≤(c.toNat:Int))=decide (97≤c.toNat):=dI 97 _
 have e2:decide ((c.toNat:Int)≤122)=decide (c.toNat≤122):=dI _ 122
 have e3:decide ((65:Int)≤(c.toNat:Int))=decide (65≤c.toNat):=dI 65 _
 have e4:decide ((c.toNat:Int)≤90)=decide (c.toNat≤90):=dI _ 90
 rw[e1,e2,e3,e4]
 unfold bh
 cases decide (97≤c.toNat)<;>cases decide (c.toNat≤122)<;>cases decide (65≤c.toNat)<;>cases decide (c.toNat≤90)<;>rfl
theorem kV {a b c:Int}:(ev E).call 30 [LV.int .i64 a,LV.int .i64 b,LV.int .i64 c] μ=some (.ret (LV.bool (decide (b≤a)&&decide (a≤c))) μ):=by
 refine aJ ?_
 rw[Y5]
 by_cases h:a<b
 ·have h1:decide (a<b)=true:=by simp[h]
  have h2:decide (b≤a)=false:=by simp;omega
  rw[h1,h2];rfl
 ·have h1:decide (a<b)=false:=by simp;omega
  have h2:decide (b≤a)=true:=by simp;omega
  have h3:(!decide (c<a))=decide (a≤c):=by
   by_cases h4:c<a
   ·have: ¬a≤c:=by omega
    simp[h4,this]
   ·have:a≤c:=by omega
    simp[h4,this]
  rw[h1,h2,h3];rfl
theorem V3: ∀(k:Nat) (p l:List UInt8),l.length=k→p.length+k≤1000000→
  pI (ev E) (p.length+k) (p.length:Int) (bz (p++l)) μ=some (oI (p.length+k) (bz (p++l.map upB)) μ):=by
 intro k
 induction k with
 |zero=>
  intro p l hl hp
  have:l=[]:=List.eq_nil_of_length_eq_zero hl
  subst this
  refine aW ?_
  rw[El,cw (by omega),cond_false]
  rfl
 |succ k ih=>
  intro p l hl hp
  cases l with
  |nil=>simp at hl
  |cons c r=>
   simp only[List.length_cons]at hl
   refine aW ?_
   have hr:bW (p.length:Int) (p.length+(k+1))=true:=by simp[bW];omega
   have ho:bv E.P 5 (Ob.arr 1 (bz (p++c::r))) (0+((p.length:Int)).toNat*1)=some (LV.int .u8 (c.toNat:Int)):=by
    have e1:0+((p.length:Int)).toNat*1=p.length:=by omega
    rw[e1]
    have e2:bv E.P 5 (Ob.arr 1 (bz (p++c::r))) p.length=opt ((bz (p++c::r))[p.length]?) fun c=>some (.cv c):=by kernel_rfl
    have e3:(bz (p++c::r))[p.length]? =some (CV.int .u8 (c.toNat:Int)):=by
     unfold bz
     rw[List.getElem?_map,List.getElem?_append_right (Nat.le_refl _),Nat.sub_self]
     rfl
    rw[e2,e3]
    rfl
   have hn:pI (ev E) (p.length+(k+1)) (IntKind.wrap .i64 ((p.length:Int)+1)) (bz (p++upB c::r)) μ=some (oI (p.length+(k+1)) (bz (p++(c::r).map upB)) μ):=by
    have:=ih (p++[upB c]) r (by omega) (by simp;omega)
    have e1:(p++[upB c]).length+k=p.length+(k+1):=by simp;omega
    have e2:(((p++[upB c]).length:Nat):Int)=((p.length+1:Nat):Int):=by simp
    rw[e1,e2]at this
    rw[bM (by omega)]
    have e3:p++[upB c]++r=p++upB c::r:=by simp
    have e4:p++[upB c]++r.map upB=p++(c::r).map upB:=by simp
    rw[e3,e4]at this
    exact this
   rw[El,cj (by omega),cond_true,hr,aA,ho]
   simp only[ad,ao,aa,ak,am,ah,ae,aj,aA,cond_true,cond_false,Bool.not_true,Bool.not_false,av,au,aq]
   have e1:decide ((97:Int)≤(c.toNat:Int))=decide (97≤c.toNat):=dI 97 _
   have e2:decide ((c.toNat:Int)≤122)=decide (c.toNat≤122):=dI _ 122
   rw[e1,e2]
   by_cases h1:97≤c.toNat
   ·by_cases h2:c.toNat≤122
    ·have hu:upB c=c-32:=by unfold upB;rw[if_pos ⟨h1,h2⟩]
     have hc:(c-32).toNat=c.toNat-32:=by
      rw[UInt8.toNat_sub_of_le]
      ·rfl
      ·rw[UInt8.le_iff_toNat_le];show 32≤c.toNat;omega
     have w1:IntKind.wrap .u8 ((c.toNat:Int) -97)=(c.toNat:Int) -97:=MJ (by omega) (by omega)
     have w2:IntKind.wrap .u8 ((c.toNat:Int) -97+65)=((upB c).toNat:Int):=by rw[MJ (by omega) (by omega),hu,hc];omega
     have hs:bo (bz (p++c::r)) (0+((p.length:Int)).toNat*1) (CV.cells (CV.int .u8 ((upB c).toNat:Int)))=bz (p++upB c::r):=by
      have e1:0+((p.length:Int)).toNat*1=p.length:=by omega
      rw[e1]
      show ((bz (p++c::r)).set p.length (CV.int .u8 ((upB c).toNat:Int)))=_
      unfold bz
      rw[List.map_append,List.map_append,List.set_append,if_neg (by simp)]
      simp
     have hg:(df 1 (CV.int .u8 ((upB c).toNat:Int))&&Nat.ble (0+((p.length:Int)).toNat*1+1) (bz (p++c::r)).length)=true:=by
      have e1:0+((p.length:Int)).toNat*1+1=p.length+1:=by omega
      rw[e1,jC]
      have:df 1 (CV.int .u8 ((upB c).toNat:Int))=true:=rfl
      rw[this,Bool.true_and]
      simp
     simp only[h1,h2,decide_true,ad,ao,aa,ak,am,ah,ae,aj,aA,cond_true,cond_false,Bool.not_true,Bool.not_false,av,au,aq,hr]
     rw[w1,w2,hg,aA,hs,hn]
    ·have hu:upB c=c:=by unfold upB;rw[if_neg (by omega)]
     rw[hu]at hn
     simp only[h1,h2,decide_true,decide_false,ad,ao,aa,ak,am,ah,ae,aj,aA,cond_true,cond_false,Bool.not_true,Bool.not_false,av,au,aq,hr]
     rw[hn]
   ·have hu:upB c=c:=by unfold upB;rw[if_neg (by omega)]
    rw[hu]at hn
    simp only[h1,decide_false,ad,ao,aa,ak,am,ah,ae,aj,aA,cond_true,cond_false,Bool.not_true,Bool.not_false,av,au,aq]
    rw[hn]
theorem OL {s:List UInt8}(hs:s.length≤1000000):(ev E).call 107 [LV.str s] μ=some (.ret (LV.str (s.map upB)) μ):=by
 refine aJ ?_
 have:=V3 (μ:=μ) s.length [] s rfl (by simpa using hs)
 simp only[List.length_nil,Nat.zero_add,List.nil_append]at this
 have e0:((0:Nat):Int)=0:=rfl
 rw[e0]at this
 rw[W7,bJ (by omega),aA,this,aa,Hj]
 have h1:(List.take s.length (List.drop 0 (bz (s.map upB))))=bz (s.map upB):=by
  rw[List.drop_zero,List.take_of_length_le]
  rw[jC,List.length_map];exact Nat.le_refl _
 have h2:Nat.ble (0+s.length) (bz (s.map upB)).length=true:=by rw[jC,List.length_map];simp
 rw[h1,h2,aA,dg,aa]
theorem nU {s w:List UInt8}{n:Nat}(hs:s.length≤200000)(hn:n≤s.length)(hw:w.length≤200000):(ev E).call 110 [LV.str s,LV.int .i64 (n:Int),LV.str w] μ=some (.ret (LV.bool (bG s n w)) μ):=by
 refine aJ ?_
 rw[Xa,iB (by omega)]
 unfold bG
 by_cases h:n+w.length≤s.length
 ·rw[YZ h,cond_true,fM (by omega) h,aa]
  have e:n+w.length-n=w.length:=by omega
  rw[e,OL (by simp;omega)]
  simp only[ad,ao,aa,ak,am,ah,ae,aj,aA,cond_true,cond_false,Bool.not_true,Bool.not_false,av,au,aq]
  simp[h]
 ·rw[YY (by omega),cond_false]
  simp[h]
theorem VV {s:List UInt8}(hs:s.length≤200000){n:Nat}(hn:n≤s.length): ∀(k m:Nat),n+m+k=s.length→CG (ev E) s (n:Int) (m:Int) μ=some (oJ ((m+digR s (n+m):Nat):Int) μ):=by
 intro k
 induction k with
 |zero=>
  intro m hm
  refine aW ?_
  rw[Es,iB (by omega),cw (by omega),cond_false]
  have:s.drop (n+m)=[]:=List.drop_eq_nil_of_le (by omega)
  simp[digR,this]
 |succ k ih=>
  intro m hm
  refine aW ?_
  have hlt:n+m<s.length:=by omega
  rw[Es,iB (by omega),cj (by omega),cond_true,cl hlt,aa,yQ]
  simp only[ad,ao,aa,ak,am,ah,ae,aj,aA,cond_true,cond_false,Bool.not_true,Bool.not_false,av,au,aq]
  have hd:s.drop (n+m)=s[n+m]::s.drop (n+m+1):=List.drop_eq_getElem_cons hlt
  cases hc:aL s[n+m]with
  |true=>
   rw[cond_true,bM (by omega),ih (m+1) (by omega)]
   unfold digR
   rw[hd,List.takeWhile_cons,hc]
   simp only[if_true,List.length_cons]
   have:n+(m+1)=n+m+1:=by omega
   rw[this]
   congr 3
   omega
  |false=>
   rw[cond_false]
   unfold digR
   rw[hd,List.takeWhile_cons,hc]
   simp
theorem yT {s:List UInt8}(hs:s.length≤200000){n:Nat}(hn:n≤s.length):(ev E).call 142 [LV.str s,LV.int .i64 (n:Int)] μ=some (.ret (LV.int .i64 (digR s n:Nat)) μ):=by
 refine aJ ?_
 have:=VV (μ:=μ) hs hn (s.length-n) 0 (by omega)
 have e0:((0:Nat):Int)=0:=rfl
 rw[e0,Nat.zero_add,Nat.add_zero]at this
 rw[Xu,this,aa,Hq]
theorem pZ {s:List UInt8}{n:Nat}(hn:n≤s.length):n+digR s n≤s.length:=by
 unfold digR
 have:=(List.takeWhile_sublist aL (l:=s.drop n)).length_le
 rw[List.length_drop]at this
 omega
theorem OT {t:List UInt8}:(ev E).call 145 [LV.str t] μ=some (.ret (LV.str (bR t)) μ):=by
 refine aJ ?_
 rw[Xx]
 unfold bR
 by_cases h:t=[]<;>simp[h]
theorem Pg: ∀(s:List UInt8),s.length≤1000000→CI (ev E) s μ=some (oK (bQ s) μ)
 |[],_=>aW (by rw[xw];rfl)
 |[c],_=>aW (by rw[xw];rfl)
 |c::d::r,h=>by
  have e48: ∀c:UInt8,decide ((c.toNat:Int)=48)=decide (c=48):=fun c=>cq (k:=48) (by omega)
  simp only[List.length_cons]at h
  refine aW ?_
  have h1:decide ((1:Int)<((c::d::r).length:Int))=true:=by simp;omega
  have h2:bu (c::d::r) (0:Int)=some c:=rfl
  have h3:=rj (l:=c::d::r) (a:=1) (by simp)
  have e1:((1:Nat):Int)=1:=rfl
  rw[e1]at h3
  rw[xw,h1,cond_true,h2,aa,e48,h3,aa]
  unfold bQ
  by_cases hc:c=48
  ·have:decide (c=48)=true:=by simp[hc]
   rw[this,cond_true,if_pos hc]
   exact Pg (d::r) (by simp;omega)
  ·have:decide (c=48)=false:=by simp[hc]
   rw[this,cond_false,if_neg hc]
theorem OS {s:List UInt8}(hs:s.length≤1000000):(ev E).call 144 [LV.str s] μ=some (.ret (LV.str (bQ s)) μ):=by
 refine aJ ?_
 rw[Xw,Pg s hs,aa,Hs]
def jE (s:List UInt8):List UInt8:=(bQ s.reverse).reverse
theorem TX: ∀(k:Nat) (s:List UInt8),s.length=k→s.length≤1000000→CJ (ev E) s μ=some (oL (jE s) μ):=by
 have e48: ∀c:UInt8,decide ((c.toNat:Int)=48)=decide (c=48):=fun c=>cq (k:=48) (by omega)
 intro k
 induction k with
 |zero=>
  intro s hk h
  have:s=[]:=List.eq_nil_of_length_eq_zero hk
  subst this
  exact aW (by rw[xx];rfl)
 |succ k ih=>
  intro s hk h
  refine aW ?_
  have hne:s≠[]:=by intro e;subst e;simp at hk
  have hsp:=List.dropLast_concat_getLast hne
  have hrev:s.reverse=s.getLast hne::s.dropLast.reverse:=by
   conv=>lhs;rw[←hsp]
   simp
  by_cases h1:1<s.length
  ·have e1:decide ((1:Int)<(s.length:Int))=true:=by simp;omega
   have hdl:s.dropLast.length=s.length-1:=List.length_dropLast
   obtain⟨d,r,hr⟩: ∃d r,s.dropLast.reverse=d::r:=by
    cases hx:s.dropLast.reverse with
    |nil=>
     have:s.dropLast.length=0:=by rw[←List.length_reverse,hx];rfl
     omega
    |cons d r=>exact⟨d,r,rfl⟩
   have hl:bu s ((s.length-1:Nat):Int)=some (s.getLast hne):=by rw[cl (by omega),List.getLast_eq_getElem]
   have hcut:dB s (0:Int) ((s.length-1:Nat):Int)=some s.dropLast:=by
    have:=fM (l:=s) (a:=0) (e:=s.length-1) (by omega) (by omega)
    have e0:((0:Nat):Int)=0:=rfl
    rw[e0]at this
    rw[this,List.drop_zero,Nat.sub_zero,List.dropLast_eq_take]
   rw[xx,e1,cond_true,To (by omega) (by omega),hl,aa,e48,hcut,aa]
   by_cases hc:s.getLast hne=48
   ·have:decide (s.getLast hne=48)=true:=by simp[hc]
    rw[this,cond_true,ih s.dropLast (by omega) (by omega)]
    unfold jE
    rw[hrev,hr,bQ,if_pos hc]
   ·have:decide (s.getLast hne=48)=false:=by simp[hc]
    rw[this,cond_false]
    unfold jE
    rw[hrev,hr,bQ,if_neg hc,←hr,←hrev,List.reverse_reverse]
  ·have e1:decide ((1:Int)<(s.length:Int))=false:=by simp;omega
   rw[xx,e1,cond_false]
   have hd:s.dropLast=[]:=List.eq_nil_of_length_eq_zero (by rw[List.length_dropLast];omega)
   unfold jE
   rw[hrev,hd]
   rw[hd,List.nil_append]at hsp
   rw[List.reverse_nil,bQ,List.reverse_singleton,hsp]
theorem Vv {s:List UInt8}(hs:s.length≤1000000):(ev E).call 146 [LV.str s] μ=some (.ret (LV.str (jE s)) μ):=by
 refine aJ ?_
 rw[Xy,TX _ s rfl hs,aa,Ht]
def countR (s:List UInt8):Nat:=if s=[48]then 0 else s.length
theorem OU {s:List UInt8}:(ev E).call 147 [LV.str s] μ=some (.ret (LV.int .i64 (countR s:Nat)) μ):=by
 refine aJ ?_
 rw[Xz]
 unfold countR
 by_cases h:s=[48]
 ·simp[h]
 ·simp[h]
theorem TW {s:List UInt8}(hs:s.length≤9)(hd: ∀b∈s,aL b=true): ∀(k m acc:Nat),m+k=s.length→(acc+1)*10^k≤1000000000→CH (ev E) s (acc:Int) (m:Int) μ=some (tv (valD acc (s.drop m):Nat) μ):=by
 intro k
 induction k with
 |zero=>
  intro m acc hm ha
  refine aW ?_
  rw[Et,cw (by omega),cond_false,List.drop_eq_nil_of_le (by omega)]
  rfl
 |succ k ih=>
  intro m acc hm ha
  have hp:1≤10^k:=Nat.pow_pos (by omega)
  have e2:(acc+1)*10^(k+1)=((acc+1)*10)*10^k:=by rw[Nat.pow_succ,Nat.mul_comm (10^k) 10,Nat.mul_assoc]
  rw[e2]at ha
  have h3:(acc+1)*10≤1000000000:=Nat.le_trans (Nat.le_mul_of_pos_right _ hp) ha
  have hlt:m<s.length:=by omega
  have hc:=dJ.1 (hd s[m] (List.getElem_mem hlt))
  refine aW ?_
  have w1:IntKind.wrap .u8 ((s[m].toNat:Int) -48)=((s[m].toNat-48:Nat):Int):=by rw[MJ (by omega) (by omega)];omega
  have w2:IntKind.wrap .i64 ((s[m].toNat-48:Nat):Int)=((s[m].toNat-48:Nat):Int):=bB (by omega) (by omega)
  have w3:IntKind.wrap .i64 (10*(acc:Int))=((10*acc:Nat):Int):=by rw[bB (by omega) (by omega)];omega
  have w4:IntKind.wrap .i64 (((10*acc:Nat):Int)+((s[m].toNat-48:Nat):Int))=((acc*10+(s[m].toNat-48):Nat):Int):=by rw[bB (by omega) (by omega)];omega
  rw[Et,cj hlt,cond_true,cl hlt,aa,w1,w2,w3,w4,bM (by omega),ih (m+1) _ (by omega) (Nat.le_trans (Nat.mul_le_mul_right _ (by omega)) ha),List.drop_eq_getElem_cons hlt,dL]
theorem Vu {s:List UInt8}(hs:s.length≤9)(hd: ∀b∈s,aL b=true):(ev E).call 143 [LV.str s] μ=some (.ret (LV.int .i64 (valD 0 s:Nat)) μ):=by
 refine aJ ?_
 have hp:(0+1)*10^s.length≤1000000000:=by
  have:10^s.length≤10^9:=Nat.pow_le_pow_right (by omega) hs
  omega
 have:=TW (μ:=μ) hs hd s.length 0 0 (by omega) hp
 have e0:((0:Nat):Int)=0:=rfl
 rw[e0,List.drop_zero]at this
 rw[Xv,this,aa,Hr]
theorem Tl (n:Nat):Int.tdiv (n:Int) 10=((n / 10:Nat):Int):=by exact rfl
theorem Tm (n:Nat):Int.tmod (n:Int) 10=((n % 10:Nat):Int):=by exact rfl
theorem nT {n:Nat}:Lib.itoa (n:Int)=Lib.decDigits n:=by
 unfold Lib.itoa
 rw[if_neg (by omega)]
 rfl
theorem D0 {n:Nat}(h:1≤n):Lib.itoa (-(n:Int))=45::Lib.decDigits n:=by
 unfold Lib.itoa
 rw[if_pos (by omega)]
 congr 2
 omega
theorem TJ: ∀d:Fin 10,dB ([48,49,50,51,52,53,54,55,56,57]:List UInt8) (d.val:Int) ((d.val+1:Nat):Int)=some [UInt8.ofNat (48+d.val)]:=by decide
theorem pY {n:Nat}(h:n<18446744073709551616):(Lib.decDigits n).length≤20:=by rw[Lib.decDigits_length];exact Lib.nDigits_le20 n h
theorem Aq: ∀(n:Nat),n≤1000000000→(ev E).call 148 [LV.int .i64 (n:Int)] μ=some (.ret (LV.str (Lib.decDigits n)) μ):=by
 intro n
 induction n using Nat.strongRecOn with
 |_ n ih=>
  intro hn
  refine aJ ?_
  have h0:decide ((n:Int)<0)=false:=by simp
  rw[Ta,h0,cond_false]
  have hG:MQ (ev E) (n:Int) μ=some (oz (Lib.decDigits n) μ):=by
   refine aR ?_
   rw[Ry]
   by_cases h9:9<n
   ·have e9:decide ((9:Int)<(n:Int))=true:=by simp;omega
    have w1:IntKind.wrap .i64 (Int.tdiv (n:Int) 10)=((n / 10:Nat):Int):=by
     have:Int.tdiv (n:Int) 10=((n / 10:Nat):Int):=Tl n
     rw[this,bB (by omega) (by omega)]
    have w2:Int.tmod (n:Int) 10=((n % 10:Nat):Int):=Tm n
    have hd1:(Lib.decDigits (n / 10)).length≤20:=pY (by omega)
    have hd2:(Lib.decDigits (n % 10)).length≤20:=pY (by omega)
    rw[e9,cond_true,w1,ih (n / 10) (by omega) (by omega)]
    simp only[ad,ao,aa,ak,am,ah,ae,aj,aA,cond_true,cond_false,Bool.not_true,Bool.not_false,av,au,aq]
    rw[w2,ih (n % 10) (by omega) (by omega)]
    simp only[ad,ao,aa,ak,am,ah,ae,aj,aA,cond_true,cond_false,Bool.not_true,Bool.not_false,av,au,aq]
    rw[bJ (by omega),aA]
    have:Lib.decDigits (n % 10)=[UInt8.ofNat (48+n % 10)]:=Lib.decDigits_one (by omega)
    rw[this]
    have e:=Af (u:=n / 10) (d:=n % 10) (by omega) (by omega)
    have e2:n / 10*10+n % 10=n:=by omega
    rw[e2]at e
    rw[e]
   ·have e9:decide ((9:Int)<(n:Int))=false:=by simp;omega
    rw[e9,cond_false,bM (by omega)]
    have:=TJ ⟨n,by omega⟩
    simp only at this
    rw[this,aa,Lib.decDigits_one (by omega)]
  rw[hG,aa,GE]
theorem TS: ∀(n:Nat),1≤n→n≤1000000000→(ev E).call 148 [LV.int .i64 (-(n:Int))] μ=some (.ret (LV.str (45::Lib.decDigits n)) μ):=by
 intro n
 induction n using Nat.strongRecOn with
 |_ n ih=>
  intro h1 hn
  refine aJ ?_
  have h0:decide (-(n:Int)<0)=true:=by simp;omega
  rw[Ta,h0,cond_true]
  by_cases h9:9<n
  ·have e9:decide ((-10:Int)< -(n:Int))=false:=by simp;omega
   rw[e9,cond_false]
   have hG:MP (ev E) (-(n:Int)) μ=some (sP (45::Lib.decDigits n) μ):=by
    refine aR ?_
    have w1:IntKind.wrap .i64 (Int.tdiv (-(n:Int)) 10)= -((n / 10:Nat):Int):=by
     have:Int.tdiv (-(n:Int)) 10= -((n / 10:Nat):Int):=by rw[Int.neg_tdiv,Tl]
     rw[this,bB (by omega) (by omega)]
    have w2:IntKind.wrap .i64 (0-Int.tmod (-(n:Int)) 10)=((n % 10:Nat):Int):=by
     have:Int.tmod (-(n:Int)) 10= -((n % 10:Nat):Int):=by rw[Int.neg_tmod,Tm]
     rw[this,bB (by omega) (by omega)]
     omega
    have hd1:(Lib.decDigits (n / 10)).length≤20:=pY (by omega)
    have hd2:(Lib.decDigits (n % 10)).length≤20:=pY (by omega)
    rw[Rx,w1,ih (n / 10) (by omega) (by omega) (by omega)]
    simp only[ad,ao,aa,ak,am,ah,ae,aj,aA,cond_true,cond_false,Bool.not_true,Bool.not_false,av,au,aq]
    rw[w2,Aq (n % 10) (by omega)]
    simp only[ad,ao,aa,ak,am,ah,ae,aj,aA,cond_true,cond_false,Bool.not_true,Bool.not_false,av,au,aq]
    rw[bJ (by simp;omega),aA]
    have:Lib.decDigits (n % 10)=[UInt8.ofNat (48+n % 10)]:=Lib.decDigits_one (by omega)
    rw[this]
    have e:=Af (u:=n / 10) (d:=n % 10) (by omega) (by omega)
    have e2:n / 10*10+n % 10=n:=by omega
    rw[e2]at e
    rw[e]
    rfl
   rw[hG,aa,GD]
  ·have e9:decide ((-10:Int)< -(n:Int))=true:=by simp;omega
   have w1:IntKind.wrap .i64 (0- -(n:Int))=(n:Int):=by rw[bB (by omega) (by omega)];omega
   have hd2:(Lib.decDigits n).length≤20:=pY (by omega)
   rw[e9,cond_true,w1,Aq n (by omega)]
   simp only[ad,ao,aa,ak,am,ah,ae,aj,aA,cond_true,cond_false,Bool.not_true,Bool.not_false,av,au,aq]
   rw[bJ (by simp;omega),aA]
   rfl
theorem Vw {n:Int}(h0: -1000000000≤n)(h1:n≤1000000000):(ev E).call 148 [LV.int .i64 n] μ=some (.ret (LV.str (Lib.itoa n)) μ):=by
 by_cases h:0≤n
 ·obtain⟨m,rfl⟩: ∃m:Nat,n=(m:Int):=⟨n.toNat,by omega⟩
  rw[nT]
  exact Aq m (by omega)
 ·obtain⟨m,rfl⟩: ∃m:Nat,n= -(m:Int):=⟨(-n).toNat,by omega⟩
  rw[D0 (by omega)]
  exact TS m (by omega) (by omega)
theorem VU {s:List UInt8}(hs:s.length≤200000): ∀(k m:Nat) (acc:List UInt8),m+k=s.length→acc.length≤1+2*m→xT (ev E) s acc (m:Int) μ=some (tw (acc++dbl (s.drop m)) μ):=by
 have e39: ∀c:UInt8,decide ((c.toNat:Int)=39)=decide (c=39):=fun c=>cq (k:=39) (by omega)
 intro k
 induction k with
 |zero=>
  intro m acc hm ha
  refine aW ?_
  rw[Eu,cw (by omega),cond_false,List.drop_eq_nil_of_le (by omega)]
  simp[dbl]
 |succ k ih=>
  intro m acc hm ha
  have hlt:m<s.length:=by omega
  refine aW ?_
  rw[Eu,cj hlt,cond_true,bM (by omega),QU hlt,aa,bJ (by simp;omega),aA,cl hlt,aa,e39,List.drop_eq_getElem_cons hlt,dbl]
  by_cases hc:s[m]=39
  ·have:decide (s[m]=39)=true:=by simp[hc]
   rw[this,cond_true,bJ (by simp;omega),aA,ih (m+1) _ (by omega) (by simp;omega),if_pos hc,hc]
   simp
  ·have:decide (s[m]=39)=false:=by simp[hc]
   rw[this,cond_false,ih (m+1) _ (by omega) (by simp;omega),if_neg hc]
   simp
theorem Vx {s:List UInt8}(hs:s.length≤200000):(ev E).call 149 [LV.str s] μ=some (.ret (LV.str (ij s)) μ):=by
 refine aJ ?_
 have:=VU (μ:=μ) hs s.length 0 [39] (by omega) (by simp)
 have e0:((0:Nat):Int)=0:=rfl
 have hd:=vu s
 rw[e0,List.drop_zero]at this
 rw[XA,this,aa,Hu,bJ (by simp;omega),aA]
 rfl
theorem Vf {s:List UInt8}{m:Int}(hs:s.length≤200000):(ev E).call 104 [LV.str s,LV.int .i64 m] μ=some (.ret (LV.bool (!decide (m<(s.length:Int))&&fN s)) μ):=by
 have hl: ∀(k n:Nat),n+k=s.length→CD (ev E) s (n:Int) μ=some (if fN (s.drop n)then th μ else tf false μ):=by
  intro k
  induction k with
  |zero=>
   intro n hn
   refine aW ?_
   rw[Ek,cw (by omega),cond_false,List.drop_eq_nil_of_le (by omega)]
   rfl
  |succ k ih=>
   intro n hn
   have hlt:n<s.length:=by omega
   refine aW ?_
   have w:IntKind.wrap .i64 (s[n].toNat:Int)=(s[n].toNat:Int):=by have:=s[n].toNat_lt;rw[bB (by omega) (by omega)]
   rw[Ek,cj hlt,cond_true,cl hlt,aa,w,kV]
   simp only[ad,ao,aa,ak,am,ah,ae,aj,aA,cond_true,cond_false,Bool.not_true,Bool.not_false,av,au,aq]
   rw[bM (by omega),ih (n+1) (by omega),List.drop_eq_getElem_cons hlt]
   have e1:decide ((32:Int)≤(s[n].toNat:Int))=decide (32≤s[n].toNat):=dI 32 _
   have e2:decide ((s[n].toNat:Int)≤126)=decide (s[n].toNat≤126):=dI _ 126
   rw[e1,e2]
   have hT:fN (s[n]::s.drop (n+1))=((decide (32≤s[n].toNat)&&decide (s[n].toNat≤126))&&fN (s.drop (n+1))):=by
    unfold fN
    rw[List.any_cons]
    by_cases h1:32≤s[n].toNat
    ·by_cases h2:s[n].toNat≤126
     ·have h3: ¬s[n].toNat<32:=by omega
      have h4: ¬126<s[n].toNat:=by omega
      simp[h1,h2,h3,h4]
     ·have h4:126<s[n].toNat:=by omega
      simp[h2,h4]
    ·have h3:s[n].toNat<32:=by omega
     simp[h1,h3]
   rw[hT]
   cases decide (32≤s[n].toNat)&&decide (s[n].toNat≤126)<;>rfl
 refine aJ ?_
 rw[W4]
 by_cases hm:m<(s.length:Int)
 ·have:decide (m<(s.length:Int))=true:=by simp[hm]
  rw[this];rfl
 ·have:decide (m<(s.length:Int))=false:=by simp[hm]
  have h0:=hl s.length 0 (by omega)
  have e0:((0:Nat):Int)=0:=rfl
  rw[e0,List.drop_zero]at h0
  have hG:MK (ev E) s μ=some (ow (fN s) μ):=by
   refine aR ?_
   rw[Rq,h0,aa]
   cases fN s with
   |true=>exact Hi _ _
   |false=>exact Hh _ _ _
  rw[this,cond_false,hG,aa,Gp]
  rfl
theorem S3 {s:List UInt8}(hs:s.length≤200000):(ev E).call 62 [LV.str s] μ=some (.ret (LV.int .i64 (bZ s)) μ):=by
 refine aJ ?_
 rw[Ze,Vf hs]
 simp only[ad,ao,aa,ak,am,ah,ae,aj,aA,cond_true,cond_false,Bool.not_true,Bool.not_false,av,au,aq]
 unfold bZ
 by_cases h:1320<s.length
 ·have:decide ((1320:Int)<(s.length:Int))=true:=by simp;omega
  rw[this,if_pos h]
  rfl
 ·have:decide ((1320:Int)<(s.length:Int))=false:=by simp;omega
  rw[this,if_neg h]
  cases fN s<;>rfl
theorem Wv (x y:Tok):(decide (x.kind=y.kind)&&(decide (x.type=y.type)&&(decide (x.text=y.text)&&true)))=decide (x=y):=by
 cases x;cases y
 simp[Bool.decide_and]
end
end Go.Abs
