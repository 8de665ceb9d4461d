/-
  The statement ExprLevelsCardSaid, proved; part 8 of 11 of its proof.
-/
import Derived.Test.YtmemoghbijcebaaGreatDoorV5
import Derived.Test.YtmemoghbijcebaaGreatDoorV6
import Derived.Test.YtmemoghbijcebaaGreatDoorV4
import Derived.Lib.MapLaws
import Derived.Lib.TrimAscii
import Derived.Lib.Case
import Derived.Lib.ItoaLen
import Derived.Lib.IndexMore
import Derived.Lib.IndexBytes
import Derived.Lib.Replace
import Derived.Lib.AtoiAllCases
import Derived.KernelRfl
set_option linter.all false
set_option maxRecDepth 100000
namespace Go.Abs
open Go Go.Proofs
def Sc (μ:Mu)(l i:Nat)(s:List UInt8)(fx:Bool)(r:List LV):Prop:=b7 μ l i= .cells (LV.str s::LV.bool fx::r)
def cH:List UInt8->Nat
 |[]=>0|c::r=>if c=32 then cH r+1 else 0
def skipN (fx:Bool)(s:List UInt8)(n:Nat):Nat:=if fx then n+cH (s.drop n)else n
section
variable {μ:Mu}{l i:Nat}{s:List UInt8}{fx:Bool}{r:List LV}
def Zg (h:Sc μ l i s fx r)(hs:s.length<=1000000): ∀(k n:Nat),n+k=s.length->IB (ev E) l i (n:Int) μ=some (qA (skipN fx s n:Nat) μ):=by
 intro k
 induction k with
 |zero=>intro n hk;refine dy ?_;rw[J7,h];simp only[CS,xw,bA,da,jW,fX,dw];have:List.drop n s=[]:=gX bu;have h1:decide ((n:Int)<(s.length:Int))=false:=cr;rw[h1];cases fx<;>simp[skipN,cH,this]|succ k ih=>
  intro n hk;refine dy ?_;rw[J7,h];simp only[CS,xw,bA,da,jW,fX,dw];have h1:decide ((n:Int)<(s.length:Int))=true:=cr;have hn:n<s.length:=bu;rw[h1,qW,dA hn,bA];have hd:List.drop n s=s[n]::List.drop (n+1) s:=iM hn;have e:IntKind.wrap .i64 ((n:Int)+1)=((n+1:Nat):Int):=by rw[gA bu bu];omega
  rw[e,ih (n+1) bu];cases fx
  ·simp[skipN]
  ·simp only[bY,skipN,cX,hd,cH];by_cases hc:s[n]=32
   ·have:decide (((s[n]).toNat:Int)=32)=true:=by rw[hc];decide
    rw[this];simp only[bY,hc,cX];congr 3;omega
   ·have:decide (((s[n]).toNat:Int)=32)=false:=by simp only[lF];intro h2;apply hc;apply se;have:(s[n]).toNat=32:=bu;rw[this];rfl
    rw[this];simp[hc]
def aaA (h:Sc μ l i s fx r)(hs:s.length<=1000000){n:Nat}(hn:n<=s.length):(ev E).call 207 [LV.cv (CV.ref l i 0),bv (n:Int)] μ=some (.ret (bv (skipN fx s n:Nat)) μ):=by refine b8 ?_;rw[acG,Zg h hs (s.length-n) n bu,bA,M7]
def tP: ∀(l:List UInt8),cH l<=l.length
 |[]=>cw _|c::r=>by unfold cH;have:=tP r;split<;>simp<;>omega
def K5 {n:Nat}(hn:n<=s.length):skipN fx s n<=s.length:=by unfold skipN;have:=tP (s.drop n);rw[gZ]at this;split<;>omega
def K4 {n:Nat}:n<=skipN fx s n:=by unfold skipN;split<;>omega
def atC (fx:Bool)(s:List UInt8)(n:Nat):UInt8:=(s[skipN fx s n]?).getD 0
def atE (fx:Bool)(s:List UInt8)(n:Nat):Nat:=if skipN fx s n<s.length then skipN fx s n+1 else skipN fx s n
def mi (h:Sc μ l i s fx r)(hs:s.length<=1000000){n:Nat}(hn:n<=s.length):
 (ev E).call 189 [LV.cv (CV.ref l i 0),bv (n:Int)] μ=some (.ret (.ltup [LV.int .u8 ((atC fx s n).toNat:Int),bv (atE fx s n:Nat)]) μ):=by
 refine b8 ?_;rw[acw,aaA h hs hn,bL,dH,bA,h,jW,fX,bA,dw,bA];have hle:=K5 (fx:=fx) hn;by_cases hlt:skipN fx s n<s.length
 ·have h1:decide ((s.length:Int)<=(skipN fx s n:Int))=false:=cr;rw[h1,bW];have h2:RR (ev E) l i (skipN fx s n:Nat) μ=some (yk ((atC fx s n).toNat:Int) (atE fx s n:Nat) μ):=by refine cm ?_;rw[WL,h,jW,fX,bA,dw,bA,qW,dA hlt,bA];simp only[atC,atE,hlt,cX,dA,gB];rw[gA bu bu];rfl
  rw[h2,bA,Ml]
 ·have h1:decide ((s.length:Int)<=(skipN fx s n:Int))=true:=cr;rw[h1,bY];have:s[skipN fx s n]? =none:=fq bu;simp only[atC,atE,hlt,dG,this,Gl];rfl
def jp (fx:Bool)(p:UInt8->Bool):List UInt8->Nat->List UInt8×Nat
 |[],_=>([],0)|c::r,k=>if fx&&c == 32 then jp fx p r (k+1)else if c != 0&&p c then(c::(jp fx p r 0).1,k+1+(jp fx p r 0).2)else([],0)
def eT (fx:Bool)(p:UInt8->Bool)(s:List UInt8)(n:Nat):List UInt8:=(jp fx p (s.drop n) 0).1
def runE (fx:Bool)(p:UInt8->Bool)(s:List UInt8)(n:Nat):Nat:=n+(jp fx p (s.drop n) 0).2
def BO {p:UInt8->Bool}: ∀(l:List UInt8) (k:Nat),jp true p l k=jp true p (l.drop (cH l)) (k+cH l)
 |[],k=>rfl|c::r,k=>by
  by_cases hc:c=32
  ·have e1:jp true p (c::r) k=jp true p r (k+1):=by simp[jp,hc]
   have e2:cH (c::r)=cH r+1:=by simp[cH,hc]
   rw[e1,e2,BO r (k+1)];simp only[tj];congr 1;omega
  ·have e2:cH (c::r)=0:=by simp[cH,hc]
   rw[e2];rfl
def p7: ∀(l:List UInt8) (c:UInt8) (r:List UInt8),l.drop (cH l)=c::r->c≠32
 |[],c,r,h=>by simp[cH]at h|d::t,c,r,h=>by
  by_cases hd:d=32
  ·have e2:cH (d::t)=cH t+1:=by simp[cH,hd]
   rw[e2,tj]at h;exact p7 t c r h
  ·have e2:cH (d::t)=0:=by simp[cH,hd]
   rw[e2]at h;simp only[jx,sf]at h;rw[<-h.1];exact hd
def K1 {p:UInt8->Bool}{n:Nat}:(eT fx p s n,runE fx p s n)=if atC fx s n != 0&&p (atC fx s n)then(atC fx s n::eT fx p s (atE fx s n),runE fx p s (atE fx s n))else([],n):=by
 have key: ∀m k,skipN fx s n=m->m=n+k->jp fx p (s.drop n) 0=jp fx p (s.drop m) k->(∀c t,s.drop m=c::t->(fx&&c == 32)=false)->
  (eT fx p s n,runE fx p s n)=if atC fx s n != 0&&p (atC fx s n)then(atC fx s n::eT fx p s (atE fx s n),runE fx p s (atE fx s n))else([],n):=by
  intro m k hm hk hrun hc;simp only[eT,runE,atC,atE,hm];rw[hrun];by_cases hlt:m<s.length
  ·have hd:s.drop m=s[m]::s.drop (m+1):=iM hlt;have hc':=hc _ _ hd;rw[hd];simp only[jp,hc',eD,dG,dA hlt,gB,hlt,cX];split
   ·simp only[dp,kK];omega
   ·rfl
  ·have hd:s.drop m=[]:=gX bu;rw[hd];simp[jp,fq (by omega:s.length<=m)]
 cases fx with
 |false=>exact key n 0 rfl rfl rfl λc t _=>rfl|true=>
  refine key (n+cH (s.drop n)) (cH (s.drop n)) (by simp[skipN]) rfl ?_ λc t h=> ?_
  ·rw[BO,gM,gC]
  ·have:=p7 (s.drop n) c t (by rw[gM];exact h);simp[this]
def Hh {p:UInt8->Bool}{n:Nat}(h:(atC fx s n != 0&&p (atC fx s n))=true):eT fx p s n=atC fx s n::eT fx p s (atE fx s n)/\runE fx p s n=runE fx p s (atE fx s n):=by have:=K1 (fx:=fx) (s:=s) (p:=p) (n:=n);rw[h,bK rfl,dp]at this;exact this
def xm {p:UInt8->Bool}{n:Nat}(h:(atC fx s n != 0&&p (atC fx s n))=false):eT fx p s n=[]/\runE fx p s n=n:=by have:=K1 (fx:=fx) (s:=s) (p:=p) (n:=n);rw[h,bE bG,dp]at this;exact this
def SC {n:Nat}(h:atC fx s n≠0):n<atE fx s n/\atE fx s n<=s.length:=by
 have h1:=K4 (fx:=fx) (s:=s) (n:=n);by_cases hlt:skipN fx s n<s.length
 ·simp only[atE,hlt,cX];omega
 ·exfalso;apply h;simp only[atC,fq (by omega:s.length<=skipN fx s n),Gl]
def ls {n:Nat}(hn:n<=s.length):atE fx s n<=s.length:=by have:=K5 (fx:=fx) hn;unfold atE;split<;>omega
def ut {c:UInt8}:decide ((c.toNat:Int)=0)= !(c != 0):=by
 by_cases h:c=0
 ·subst h;rfl
 ·have:c.toNat≠0:=λh2=>h (se h2);have h1:(c != 0)=true:=by simpa using h
  rw[h1];simp only[db,lF];omega
def Zd (h:Sc μ l i s fx r)(hs:s.length<=1000000){f:FuncId}{p:UInt8->Bool}(hp: ∀c:UInt8,(ev E).call f [LV.int .u8 (c.toNat:Int)] μ=some (.ret (LV.bool (p c)) μ)):
 ∀(k n:Nat) (acc:List UInt8),s.length-n<=k->n<=s.length->acc.length+(s.length-n)<=1000000->Iy (ev E) l i (n:Int) f (dg acc) μ=some (tK (acc++eT fx p s n) (runE fx p s n:Nat) μ):=by
 intro k
 induction k with
 |zero=>
  intro n acc hk hn ha;refine dy ?_;rw[J4,mi h hs hn];simp only[bL,d9,bA,dW,dH,cT];have h0:atC fx s n=0:=by
   by_cases h0:atC fx s n=0
   ·exact h0
   ·have:=SC h0;omega
  obtain⟨h1,h2⟩:=xm (fx:=fx) (s:=s) (p:=p) (n:=n) (by rw[h0];rfl);rw[h0,h1,h2];simp only[ut,fQ,bA,eU];rfl
 |succ k ih=>
  intro n acc hk hn ha;refine dy ?_;rw[J4,mi h hs hn];simp only[bL,d9,bA,dW,dH,cT,ut];by_cases h0:atC fx s n=0
  ·obtain⟨h1,h2⟩:=xm (fx:=fx) (s:=s) (p:=p) (n:=n) (by rw[h0];rfl);rw[h0,h1,h2];simp only[fQ,bA,eU];rfl
  ·have h3:(atC fx s n != 0)=true:=by simp[h0]
   rw[h3,db,bW,hp,bL,da,bA];cases hpc:p (atC fx s n)with
   |false=>obtain⟨h1,h2⟩:=xm (fx:=fx) (s:=s) (p:=p) (n:=n) (by rw[hpc];simp);rw[h1,h2];simp only[dF,bY,fQ,bA,eU]
   |true=>
    obtain⟨h1,h2⟩:=Hh (fx:=fx) (s:=s) (p:=p) (n:=n) (by rw[hpc,h3];rfl);obtain⟨h4,h5⟩:=SC h0;have h6:RT (ev E) l i f (dg acc) ((atC fx s n).toNat:Int) (atE fx s n:Nat) μ=some (yp l i (atE fx s n:Nat) f (dg (acc++[atC fx s n])) μ):=by refine cm ?_;have e:[CV.int .u8 ((atC fx s n).toNat:Int)]=dg [atC fx s n]:=rfl;rw[WN,e,Bk cr,cL,uo]
    simp only[db,bW,h6,bA,Mq];rw[ih (atE fx s n) (acc++[atC fx s n]) bu h5 cr,h1,h2];simp
def u6 (h:Sc μ l i s fx r)(hs:s.length<=1000000){f:FuncId}{p:UInt8->Bool}(hp: ∀c:UInt8,(ev E).call f [LV.int .u8 (c.toNat:Int)] μ=some (.ret (LV.bool (p c)) μ)){n:Nat}(hn:n<=s.length):
 (ev E).call 190 [LV.cv (CV.ref l i 0),bv (n:Int),LV.cv (CV.clo f [])] μ=some (.ret (.ltup [LV.str (eT fx p s n),bv (runE fx p s n:Nat)]) μ):=by
 refine b8 ?_;have:=Zd h hs hp (s.length-n) n [] (cw _) hn cr;have e:dg []=[]:=rfl;rw[e,fb]at this;rw[acx,this,bA,M3]
end
def dx (c:UInt8):Bool:=(decide (97<=c.toNat)&&decide (c.toNat<=122))||(decide (65<=c.toNat)&&decide (c.toNat<=90))
def bR (c:UInt8):Bool:=decide (48<=c.toNat)&&decide (c.toNat<=57)
def dX (c:UInt8):Bool:=dx c||bR c||decide (c.toNat=95)
section
variable {μ:Mu}
def dI (a b:Nat):decide ((a:Int)<=(b:Int))=decide (a<=b):=bG
def DX {c:UInt8}:(ev E).call 135 [LV.int .u8 (c.toNat:Int)] μ=some (.ret (LV.bool (dx c)) μ):=by refine b8 ?_;rw[acd];have e1:decide ((97:Int)<=(c.toNat:Int))=decide (97<=c.toNat):=dI 97 _;have e2:decide ((c.toNat:Int)<=122)=decide (c.toNat<=122):=dI _ 122;have e3:decide ((65:Int)<=(c.toNat:Int))=decide (65<=c.toNat):=dI 65 _;have e4:decide ((c.toNat:Int)<=90)=decide (c.toNat<=90):=dI _ 90;rw[e1,e2,e3,e4];unfold dx;cases decide (97<=c.toNat)<;>cases decide (c.toNat<=122)<;>cases decide (65<=c.toNat)<;>rfl
def qG {c:UInt8}:(ev E).call 160 [LV.int .u8 (c.toNat:Int)] μ=some (.ret (LV.bool (bR c)) μ):=by refine b8 ?_;rw[acj];have e1:decide ((48:Int)<=(c.toNat:Int))=decide (48<=c.toNat):=dI 48 _;have e2:decide ((c.toNat:Int)<=57)=decide (c.toNat<=57):=dI _ 57;rw[e1,e2];unfold bR;cases decide (48<=c.toNat)<;>rfl
def aar {c:UInt8}:(ev E).call 138 [LV.int .u8 (c.toNat:Int)] μ=some (.ret (LV.bool (dX c)) μ):=by
 refine b8 ?_;rw[ace,DX];simp only[bU];unfold dX;cases dx c
 ·simp only[bU,qG];cases bR c
  ·simp only[bU,om];have:decide ((c.toNat:Int)=95)=decide (c.toNat=95):=cr;rw[this]
  ·rfl
 ·rfl
def wW (x:List UInt8):List (List UInt8)->Nat->Int
 |[],_=> -1|a::r,j=>if x=a then(j:Int)else wW x r (j+1)
def CE (x:List UInt8): ∀(l:List (List UInt8)) (j:Nat),decide (0<=wW x l j)=l.contains x
 |[],j=>rfl|a::r,j=>by
  unfold wW;by_cases h:x=a
  ·simp[h]
  ·have h1:(x == a)=false:=by simp[h]
   rw[bE h,CE x r (j+1),List.contains_cons,h1,om]
noncomputable def P9 (n:Int)(μ:Mu):St:=if n= -1 then yJ μ else yI n μ
def aaM {l:List (List UInt8)}{x:List UInt8}(hl:l.length<=1000000): ∀(k j:Nat),j+k=l.length->
 Iw (ev E) (j0 l) x (l.length:Int) (j:Int) μ=some (P9 (wW x (l.drop j) j) μ):=by
 intro k
 induction k with
 |zero=>intro j hj;refine dy ?_;rw[J1];have:List.drop j l=[]:=gX bu;have h1:decide ((j:Int)<(l.length:Int))=false:=cr;rw[h1,this];rfl|succ k ih=>
  intro j hj;refine dy ?_;rw[J1];have hlt:j<l.length:=bu;have h1:decide ((j:Int)<(l.length:Int))=true:=cr;have hd:List.drop j l=l[j]::List.drop (j+1) l:=iM hlt;have hg:(j0 l)[j]? =some (CV.str l[j]):=by simp[j0,hlt]
  have e:IntKind.wrap .i64 ((j:Int)+1)=((j+1:Nat):Int):=by rw[gA bu bu];omega
  rw[h1,mt,hg,hd,e];simp only[bU,Ty,wW];by_cases h:x=l[j]
  ·rw[bK h];have:decide (x=l[j])=true:=by simp[h]
   rw[this,bY,P9,bE bu]
  ·rw[bE h];have:decide (x=l[j])=false:=by simp[h]
   rw[this,bW,ih (j+1) bu]
def Ve {l:List (List UInt8)}{x:List UInt8}(hl:l.length<=1000000):bN E (ev E) 126 [LV.cv (CV.sl (j0 l)),LV.str x] μ=some (.ret (bv (wW x l 0)) μ):=by
 have e:(j0 l).length=l.length:=by simp[j0]
 have:=aaM (μ:=μ) (l:=l) (x:=x) hl l.length 0 bu;rw[jx]at this;rw[ab6,e];have e0:((0:Nat):Int)=(0:Int):=rfl;rw[<-e0,this,bA,P9];by_cases h:wW x l 0= -1
 ·rw[bK h,MU,h]
 ·rw[bE h,MT]
def aap {l:List (List UInt8)}{x:List UInt8}(hl:l.length<=1000000):(ev E).call 126 [LV.cv (CV.sl (j0 l)),LV.str x] μ=some (.ret (bv (wW x l 0)) μ):=b8 (Ve hl)
def DZ {l:List (List UInt8)}{x:List UInt8}(hl:l.length<=1000000):(ev E).call 82 [LV.cv (CV.sl (j0 l)),LV.str x] μ=some (.ret (LV.bool (l.contains x)) μ):=by refine b8 ?_;rw[aen,aap hl];simp only[bU];rw[CE]
end
def upB (c:UInt8):UInt8:=if 97<=c.toNat/\c.toNat<=122 then c-32 else c
def ZW: ∀i:Fin 128,(if 0<=Lib.toUpperU (i.val:Int)then Lib.encodeRune (Lib.toUpperU (i.val:Int))else [])=[upB (UInt8.ofNat i.val)]:=co
def td: ∀(l:List UInt8),(∀b∈l,b.toNat<128)->Lib.toUpperD l=l.map upB
 |[],_=>rfl|b::t,ha=>by have hb:=ha b lG;have ih:=td t (λx hx=>ha x (gj _ hx));have h1:=ZW ⟨b.toNat,hb⟩;simp only at h1;unfold Lib.toUpperD at ih |-;rw[Lib.mapD_step Lib.toUpperU (b::t) bG,Lib.decodeL_ascii b t hb];dsimp only;rw[h1,tj,jx,ih];simp
def CY {fx:Bool}{p:UInt8->Bool}: ∀(l:List UInt8) (k:Nat),∀b∈(jp fx p l k).1,p b=true
 |[],k,b,hb=>by simp[jp]at hb|c::r,k,b,hb=>by
  unfold jp at hb;split at hb
  ·exact CY r (k+1) b hb
  ·split at hb
   ·rename_i h;simp only[eE]at hb;rcases hb with rfl|hb
    ·simp only[cM]at h;exact h.2
    ·exact CY r 0 b hb
   ·simp at hb
def Xo {fx:Bool}{p:UInt8->Bool}{s:List UInt8}{n:Nat}: ∀b∈eT fx p s n,p b=true:=CY _ _
def fM:List (List UInt8):=[[46,76,84,46],[46,76,69,46],[46,69,81,46],[46,78,69,46],[46,71,69,46],[46,71,84,46],[46,78,79,84,46],[46,65,78,68,46],[46,79,82,46],[46,69,81,86,46],[46,78,69,81,86,46]]
def d6:List (List UInt8):=[[42,42],[47,47],[61,62],[42],[47],[43],[45],[40],[41],[44],[58],[61],[37]]
def nE:List UInt8:=[46,84,82,85,69,46]
def md:List UInt8:=[46,70,65,76,83,69,46]
abbrev up (s:List UInt8):List UInt8:=Lib.toUpperD s
def AL {fx:Bool}{p:UInt8->Bool}: ∀(l:List UInt8) (k:Nat),(jp fx p l k).1.length<=l.length/\(jp fx p l k).2<=k+l.length
 |[],k=>⟨cw _,by simp[jp]⟩|c::r,k=>by
  unfold jp;have h1:=AL (fx:=fx) (p:=p) r (k+1);have h2:=AL (fx:=fx) (p:=p) r 0;split
  ·simp only[cB];omega
  ·split
   ·simp only[cB];omega
   ·simp
section
variable {μ:Mu}{l i:Nat}{s:List UInt8}{fx:Bool}{r:List LV}
def mY {p:UInt8->Bool}{n:Nat}(hn:n<=s.length):runE fx p s n<=s.length:=by have:=(AL (fx:=fx) (p:=p) (s.drop n) 0).2;rw[gZ]at this;unfold runE;omega
def nO {p:UInt8->Bool}{n:Nat}:(eT fx p s n).length<=s.length:=by have:=(AL (fx:=fx) (p:=p) (s.drop n) 0).1;rw[gZ]at this;unfold eT;omega
def uu {c:UInt8}(h:dx c=true):c.toNat<128:=by simp only[dx,jw,cM,dn]at h;omega
def abw {n:Nat}:Lib.toUpperD (eT fx dx s n)=(eT fx dx s n).map upB:=td _ λb hb=>uu (Xo b hb)
def X7:(ev E).call 92 [] μ=some (.ret (LV.osl (j0 fM)) μ):=b8 (by rw[aet];rfl)
def Qr:(ev E).call 93 [] μ=some (.ret (LV.osl (j0 d6)) μ):=b8 (by rw[aeu];rfl)
def ia (fx:Bool)(s:List UInt8)(n:Nat):List UInt8:=[46]++up (eT fx dx s (atE fx s n))++[46]
def dotEnd (fx:Bool)(s:List UInt8)(n:Nat):Nat:=atE fx s (runE fx dx s (atE fx s n))
def kg (fx:Bool)(s:List UInt8)(n:Nat):Bool:=decide (atC fx s (runE fx dx s (atE fx s n))=46)&&(fM.contains (ia fx s n)||decide (ia fx s n=nE)||decide (ia fx s n=md))
def dT (fx:Bool)(s:List UInt8)(n:Nat):List UInt8×Nat×Bool:=if atC fx s n=46 then(ia fx s n,dotEnd fx s n,kg fx s n)else([],n,false)
def lU {c:UInt8}{k:Nat}(hk:k<256):decide ((c.toNat:Int)=(k:Int))=decide (c=UInt8.ofNat k):=by
 have h2:(UInt8.ofNat k).toNat=k:=by simp[hk]
 by_cases h:c=UInt8.ofNat k
 ·subst h;rw[h2];simp
 ·have h1:c.toNat≠k:=λe=>h (se (by rw[e,h2]));simp only[h,oo,lF];omega
def TN (h:Sc μ l i s fx r)(hs:s.length<=200000){n:Nat}(hn:n<=s.length):
 (ev E).call 193 [LV.cv (CV.ref l i 0),bv (n:Int)] μ=some (.ret (.ltup [LV.str (dT fx s n).1,bv ((dT fx s n).2.1:Nat),LV.bool (dT fx s n).2.2]) μ):=by
 refine b8 ?_;rw[acA,mi h bu hn];have e46: ∀c:UInt8,decide ((c.toNat:Int)=46)=decide (c=46):=λc=>lU (k:=46) bu;simp only[bU,e46];by_cases hc:atC fx s n=46
 ·have hle:=ls (fx:=fx) hn;have hle2:=mY (fx:=fx) (p:=dx) hle;have hr:=nO (fx:=fx) (s:=s) (p:=dx) (n:=atE fx s n);have hu:(Lib.toUpperD (eT fx dx s (atE fx s n))).length<=s.length:=by rw[abw,pj];exact hr
  have hG:RU (ev E) l i (atE fx s n:Nat) μ=some (kP (ia fx s n) (dotEnd fx s n:Nat) (kg fx s n) μ):=by refine cm ?_;rw[WP,u6 h bu (λc=>DX) hle];simp only[bU];rw[mi h bu hle2];simp only[bU];rw[Jy bu];simp only[bU];rw[fC cr,fC cr];simp only[bU,X7];rw[DZ (l:=fM) co];simp only[bU,e46];have ht:[46]++Lib.toUpperD (eT fx dx s (atE fx s n))++[46]=ia fx s n:=rfl;have h3:([46,84,82,85,69,46]:List UInt8)=nE:=rfl;have h4:([46,70,65,76,83,69,46]:List UInt8)=md:=rfl;rw[ht,h3,h4];unfold kg;have he:atE fx s (runE fx dx s (atE fx s n))=dotEnd fx s n:=rfl;rw[he];cases fM.contains (ia fx s n)<;>cases decide (ia fx s n=nE)<;>cases decide (atC fx s (runE fx dx s (atE fx s n))=46)<;>simp
  rw[hG];simp only[hc,g0,bU,Mt,dT,cX]
 ·simp only[hc,oo,bU,dT,dG]
end
section
variable {μ:Mu}{l i:Nat}{s:List UInt8}{fx:Bool}{r:List LV}
def Lz: ∀i:Fin 256,IntKind.wrap .u8 ((BitVec.ofInt (IntKind.bits .u8) (i.val:Int) &&& ~~~BitVec.ofInt (IntKind.bits .u8) (32:Int)).toNat:Int)=(((UInt8.ofNat i.val) &&& 223).toNat:Int):=co
def YW (c:UInt8):IntKind.wrap .u8 ((BitVec.ofInt (IntKind.bits .u8) (c.toNat:Int) &&& ~~~BitVec.ofInt (IntKind.bits .u8) (32:Int)).toNat:Int)=((c &&& 223).toNat:Int):=by have:=Lz ⟨c.toNat,c.toNat_lt⟩;simpa using this
def j7 (fx:Bool)(s:List UInt8)(n:Nat):UInt8:=atC fx s n &&& 223
def gu (fx:Bool)(s:List UInt8)(n:Nat):List UInt8:=if atC fx s (atE fx s n)=45 then [45]else []
def expStart (fx:Bool)(s:List UInt8)(n:Nat):Nat:=if atC fx s (atE fx s n)=43\/atC fx s (atE fx s n)=45 then atE fx s (atE fx s n)else atE fx s n
def ei (fx:Bool)(s:List UInt8)(n:Nat):List UInt8:=eT fx bR s (expStart fx s n)
def cQ (fx:Bool)(s:List UInt8)(n:Nat):UInt8×List UInt8×Nat×Bool:=
 if j7 fx s n=69\/j7 fx s n=68 then(j7 fx s n,gu fx s n++ei fx s n,runE fx bR s (expStart fx s n),!decide (ei fx s n=[]))else(0,[],n,false)
def aaB (h:Sc μ l i s fx r)(hs:s.length<=200000){n:Nat}(hn:n<=s.length):
 (ev E).call 208 [LV.cv (CV.ref l i 0),bv (n:Int)] μ=some (.ret (.ltup [LV.int .u8 ((cQ fx s n).1.toNat:Int),LV.str (cQ fx s n).2.1,bv ((cQ fx s n).2.2.1:Nat),LV.bool (cQ fx s n).2.2.2]) μ):=by
 have e69: ∀c:UInt8,decide ((c.toNat:Int)=69)=decide (c=69):=λc=>lU (k:=69) bu;have e68: ∀c:UInt8,decide ((c.toNat:Int)=68)=decide (c=68):=λc=>lU (k:=68) bu;have e43: ∀c:UInt8,decide ((c.toNat:Int)=43)=decide (c=43):=λc=>lU (k:=43) bu;have e45: ∀c:UInt8,decide ((c.toNat:Int)=45)=decide (c=45):=λc=>lU (k:=45) bu;have hle:=ls (fx:=fx) hn;have hle2:=ls (fx:=fx) hle;have hst:expStart fx s n<=s.length:=by unfold expStart;split<;>assumption
 have hr:=nO (fx:=fx) (s:=s) (p:=bR) (n:=expStart fx s n);have hG: ∀(sg:List UInt8),sg.length<=1->rT (ev E) l i ((j7 fx s n).toNat:Int) (expStart fx s n:Nat) sg μ=some (wj ((j7 fx s n).toNat:Int) (sg++ei fx s n) (runE fx bR s (expStart fx s n):Nat) (!decide (ei fx s n=[])) μ):=by intro sg hsg;refine cm ?_;rw[Us,u6 h bu (λc=>qG) hst];simp only[bU];rw[fC bu];rfl
 have hG5:Io (ev E) l i ((j7 fx s n).toNat:Int) (atE fx s n:Nat) μ=some (yy ((j7 fx s n).toNat:Int) (gu fx s n++ei fx s n) (runE fx bR s (expStart fx s n):Nat) (!decide (ei fx s n=[])) μ):=by
  refine cm ?_;rw[WX,mi h bu hle];simp only[bU,e43,e45];by_cases h1:atC fx s (atE fx s n)=43
  ·have hx:expStart fx s n=atE fx s (atE fx s n):=by simp[expStart,h1]
   have hg:gu fx s n=[]:=by simp[gu,h1]
   have:=hG [] bG;rw[hx]at this;simp only[h1,g0,bU,hg];have h2:decide ((43:UInt8)=45)=false:=co;rw[h2,bW,this,bA,sU,hx]
  ·by_cases h2:atC fx s (atE fx s n)=45
   ·have hx:expStart fx s n=atE fx s (atE fx s n):=by simp[expStart,h2]
    have hg:gu fx s n=[45]:=by simp[gu,h2]
    have:=hG [45] bG;rw[hx]at this;have h3:decide ((45:UInt8)=43)=false:=co;simp only[h2,h3,g0,bU,hg];rw[this,bA,sU,hx]
   ·have hx:expStart fx s n=atE fx s n:=by simp[expStart,h1,h2]
    have hg:gu fx s n=[]:=by simp[gu,h2]
    have:=hG [] bG;rw[hx]at this;simp only[h1,h2,oo,bU,hg];rw[this,bA,sU,hx]
 refine b8 ?_;rw[acH,mi h bu hn];simp only[bU,YW];have hL:atC fx s n &&& 223=j7 fx s n:=rfl;rw[hL];simp only[e69,e68];by_cases h1:j7 fx s n=69
 ·have:cQ fx s n=(j7 fx s n,gu fx s n++ei fx s n,runE fx bR s (expStart fx s n),!decide (ei fx s n=[])):=by simp[cQ,h1]
  rw[this,hG5];simp only[h1,g0,bU];rw[<-h1,BF]
 ·by_cases h2:j7 fx s n=68
  ·have:cQ fx s n=(j7 fx s n,gu fx s n++ei fx s n,runE fx bR s (expStart fx s n),!decide (ei fx s n=[])):=by simp[cQ,h2]
   rw[this,hG5];have h3:decide ((68:UInt8)=69)=false:=co;simp only[h2,h3,g0,bU];rw[<-h2,BF]
  ·have:cQ fx s n=(0,[],n,false):=by simp[cQ,h1,h2]
   rw[this];simp only[h1,h2,oo,bU];rfl
structure Tok where
 kind:Int
 type:Int
 text:List UInt8
 deriving DecidableEq
def Tok.cv (t:Tok):CV:=CV.agg [bD t.kind,bD t.type,CV.str t.text]
def lV (e:Int):CV:=CV.iface 191 (CV.agg [bD e])
def oW {e:Int}:(ev E).call 191 [bv e] μ=some (.panic (lV e) μ):=b8 (by rw[acy];rfl)
def dC (s:List UInt8):List UInt8:=if s=[]then [48]else s
def gT (s:List UInt8):List UInt8:=Lib.trimLeftB s 48
def eh (s:List UInt8):List UInt8:=Lib.trimRightB s 48
def Y7 {t:List UInt8}:(ev E).call 212 [LV.str t,LV.bool true] μ=some (.ret (LV.str (dC (gT t))) μ):=by refine b8 ?_;rw[Yd,TT co];simp only[bU,dC,gT];by_cases h:Lib.trimLeftB t 48=[]<;>simp[h]
def Y8 {t:List UInt8}(ht:t.length<=1000000):(ev E).call 212 [LV.str t,LV.bool false] μ=some (.ret (LV.str (dC (eh t))) μ):=by refine b8 ?_;rw[Yd,TU co ht];simp only[bU,dC,eh];by_cases h:Lib.trimRightB t 48=[]<;>simp[h]
def Hu (t:List UInt8):(gT t).length<=t.length:=by unfold gT Lib.trimLeftB;exact(List.dropWhile_suffix _).length_le
def Hv (t:List UInt8):(eh t).length<=t.length:=by unfold eh Lib.trimRightB;rw[List.length_reverse];exact j5 (List.dropWhile_suffix _).length_le bG
def aaD {a b:List UInt8}(ha:a.length<=1000000)(hb:b.length<=1000000):(ev E).call 210 [LV.str a,LV.str b] μ=some (.ret (bv ((gT a).length+(eh b).length:Nat)) μ):=by refine b8 ?_;rw[acJ,TT co];simp only[bU];rw[TU co hb];simp only[bU];have h1:=Hu a;have h2:=Hv b;have e1:Lib.trimLeftB a 48=gT a:=rfl;have e2:Lib.trimRightB b 48=eh b:=rfl;rw[e1,e2,gA bu bu];simp
def fu (s:List UInt8):Int:=match Lib.atoiAll s with| .ok v=>v| .range=>Lib.atoiSat s|_=>0
def tO (s:List UInt8):Bool:=match Lib.atoiAll s with| .ok _=>true|_=>false
def HO (s:List UInt8):CV:=match tO s with|true=> .v .nilIface|false=> .iface 201 .undef
def wE (s:List UInt8):Dp 201 s= .ltup [bv (fu s),.cv (HO s)]:=by unfold Dp HO fu tO;cases Lib.atoiAll s<;>rfl
def Rg (s:List UInt8):HW (.cv (HO s))=some (tO s):=by unfold HO;cases tO s<;>rfl
def uj (s:List UInt8): -9223372036854775808<=fu s/\fu s<=9223372036854775807:=by
 unfold fu;split
 ·rename_i v h;unfold Lib.atoiAll at h;cases s with
  |nil=>cases h|cons c r=>
   simp only at h;split at h
   ·cases h
   ·cases h
   ·rename_i u hu;split at h
    ·cases h
    ·rename_i h1;split at h
     ·cases h
     ·rename_i h2;injection h with h;subst h;split<;>omega
 ·unfold Lib.atoiSat;split<;>omega
 ·omega
theorem mL {c:CV}:cx (.cv c)=some c:=rfl
def aba (μ:Mu):Except Int Tok->Out
 | .ok t=> .ret (.cv t.cv) μ| .error e=> .panic (lV e) μ
def fH (d:List UInt8):Except Int Tok:=if 10<d.length\/tO d=false\/2147483647<fu d then .error 28 else .ok ⟨1,0,Lib.itoa (fu d)⟩
theorem Ls {n:Nat}{e:Int}:below n (lV e)=true:=rfl
def aaC {d:List UInt8}(hd:d.length<=1000000):(ev E).call 209 [LV.str d] μ=some (aba μ (fH d)):=by
 refine b8 ?_;rw[acI,DW hd,wE];have hr:=uj d;simp only[bU,mL,oW,d5,Ls];by_cases h1:10<d.length
 ·have e1:decide ((10:Int)<(d.length:Int))=true:=cr;have e2:fH d= .error 28:=by simp[fH,h1]
  rw[e1,e2,bY];rfl
 ·have e1:decide ((10:Int)<(d.length:Int))=false:=cr;rw[e1,bW,Rg,bA];cases h2:tO d with
  |false=>
   have e2:fH d= .error 28:=by simp[fH,h2]
   rw[e2];rfl
  |true=>
   simp only[bU];by_cases h3:2147483647<fu d
   ·have e2:fH d= .error 28:=by simp[fH,h3]
    have e3:decide (2147483647<fu d)=true:=by simp[h3]
    rw[e2,e3];rfl
   ·have e2:fH d= .ok ⟨1,0,Lib.itoa (fu d)⟩:=by simp[fH,h1,h2,h3]
    have e3:decide (2147483647<fu d)=false:=by simp[h3]
    rw[e2,e3,bW,TO hr.1 hr.2];rfl
end
def zJ (μ:Mu):Except Int (Tok×Nat)->Out
 | .ok q=> .ret (.ltup [.cv q.1.cv,bv (q.2:Int)]) μ| .error e=> .panic (lV e) μ
def lm (whole part:List UInt8):List UInt8:=dC (gT whole)++[46]++dC (eh part)
def kh (digits:List UInt8)(ok:Bool):List UInt8:=if ok then Lib.itoa (fu digits)else [48]
def gP (text pow:List UInt8)(letter:UInt8)(ok:Bool):Tok:=
 if letter=68/\ok=true then⟨1,2,text++[68]++pow⟩else if pow=[48]then⟨1,1,text⟩else⟨1,1,text++([69]++pow)⟩
def vv (whole part digits:List UInt8)(ok:Bool):Bool:=decide (30<(gT whole).length+(eh part).length)||(decide (3<(Lib.trimPrefix digits [45]).length)&&ok)
def fS (whole part digits:List UInt8)(letter:UInt8)(ok:Bool)(e:Nat):Except Int (Tok×Nat):=
 if vv whole part digits ok then .error 7 else .ok (gP (lm whole part) (kh digits ok) letter ok,e)
def eM (fx:Bool)(s:List UInt8)(n:Nat):List UInt8:=eT fx bR s n
def ge (fx:Bool)(s:List UInt8)(n:Nat):Bool:=decide (atC fx s (runE fx bR s n)=46)&&(!(dT fx s (runE fx bR s n)).2.2||decide (eM fx s n=[]))
def ie (fx:Bool)(s:List UInt8)(n:Nat):List UInt8:=if ge fx s n then eT fx bR s (atE fx s (runE fx bR s n))else []
def numEnd (fx:Bool)(s:List UInt8)(n:Nat):Nat:=if ge fx s n then runE fx bR s (atE fx s (runE fx bR s n))else runE fx bR s n
def fL (fx:Bool)(s:List UInt8)(n:Nat):Except Int (Tok×Nat):=
 let q:=cQ fx s (numEnd fx s n)
 if !ge fx s n&& !q.2.2.2 then(match fH (eM fx s n)with| .ok t=> .ok (t,numEnd fx s n)| .error e=> .error e)
 else fS (eM fx s n) (ie fx s n) q.2.1 q.1 q.2.2.2 (if q.2.2.2 then q.2.2.1 else numEnd fx s n)
def stT (μ:Mu)(xr:Int->Int->Int->List UInt8->Mu->St)(xp:CV->Mu->St):Except Int (Tok×Nat)->St
 | .ok q=>xr (q.2:Int) q.1.kind q.1.type q.1.text μ| .error e=>xp (lV e) μ
section
variable {μ:Mu}{l i:Nat}{s:List UInt8}{fx:Bool}{r:List LV}
def acX {e:Nat}{text pow:List UInt8}{a b:Int}{c:List UInt8}(h:text.length+pow.length<=1000000):
 E7 (ev E) (e:Int) text pow a b c μ=some (rt (e:Int) 1 1 (if pow=[48]then text else text++([69]++pow)) μ):=by
 refine cm ?_;rw[Up];by_cases hp:pow=[48]
 ·have:decide (pow=[48])=true:=by simp[hp]
  rw[this,bK hp];rfl
 ·have:decide (pow=[48])=false:=by simp[hp]
  rw[this,bE hp];simp only[bU];rw[fC cr,fC cr];simp only[bU]
def Yq {e:Nat}{letter:UInt8}{ok:Bool}{text pow:List UInt8}{a b:Int}{c:List UInt8}(h:text.length+pow.length<=1000000):
 E6 (ev E) (e:Int) (letter.toNat:Int) ok text pow a b c μ=some (rr (e:Int) (gP text pow letter ok).kind (gP text pow letter ok).type (gP text pow letter ok).text μ):=by
 have e68:decide ((letter.toNat:Int)=68)=decide (letter=68):=lU (k:=68) bu;refine cm ?_;rw[Uo,e68,acX h,bA,Ks];by_cases hl:letter=68
 ·cases ok with
  |true=>
   have:gP text pow letter true=⟨1,2,text++[68]++pow⟩:=by simp[gP,hl]
   rw[this];simp only[hl,g0,bU];rw[fC cr,fC cr];simp only[bU]
  |false=>simp only[hl,g0,bU];by_cases hp:pow=[48]<;>simp[gP,hp]
 ·simp only[hl,oo,bU];by_cases hp:pow=[48]<;>simp[gP,hp,hl]
def Eh (t:List UInt8):(dC t).length<=t.length+1:=by unfold dC;split<;>simp
def acW {e:Nat}{letter:UInt8}{ok:Bool}{whole part digits:List UInt8}{a b:Int}{c:List UInt8}(h1:whole.length<=200000)(h2:part.length<=200000)(h3:digits.length<=200001)(h4:(kh digits ok).length<=100):
 uG (ev E) (e:Int) whole part (letter.toNat:Int) digits ok a b c μ=some (wg (e:Int) (gP (lm whole part) (kh digits ok) letter ok).kind (gP (lm whole part) (kh digits ok) letter ok).type (gP (lm whole part) (kh digits ok) letter ok).text μ):=by
 refine cm ?_;have k1:=Hu whole;have k2:=Hv part;have k3:=Eh (gT whole);have k4:=Eh (eh part);rw[Un,Y7];simp only[bU];rw[fC cr];simp only[bU];rw[Y8 bu];simp only[bU];rw[fC cr];have ht:dC (gT whole)++[46]++dC (eh part)=lm whole part:=rfl;have hl:(lm whole part).length<=400003:=by rw[<-ht];simp;omega
 cases ok with|true=>have hr:=uj digits;simp only[bU,DW (show digits.length<=1000000 by omega),wE,mL,TO hr.1 hr.2];have hp:Lib.itoa (fu digits)=kh digits true:=rfl;rw[hp,ht,Yq bu,bA,zC]|false=>simp only[bU];have hp:([48]:List UInt8)=kh digits false:=rfl;rw[hp,ht,Yq bu,bA,zC]
def FW (a b:List UInt8):(Lib.trimPrefix a b).length<=a.length:=Lib.trimPrefix_le a b
def Yp {e:Nat}{letter:UInt8}{ok:Bool}{whole part digits:List UInt8}{a b:Int}{c:List UInt8}(h1:whole.length<=200000)(h2:part.length<=200000)(h3:digits.length<=200001)(h4:(kh digits ok).length<=100):
 E5 (ev E) (e:Int) whole part (letter.toNat:Int) digits ok a b c μ=some (stT μ we mC (fS whole part digits letter ok e)):=by
 refine cm ?_;rw[Um,aaD bu bu];simp only[bU,oW,d5,aaE];have k0:=FW digits [45];have e30:decide ((30:Int)<(((gT whole).length+(eh part).length:Nat):Int))=decide (30<(gT whole).length+(eh part).length):=cr;have e3:decide ((3:Int)<((Lib.trimPrefix digits [45]).length:Int))=decide (3<(Lib.trimPrefix digits [45]).length):=cr;rw[e30,e3,acW h1 h2 h3 h4,bA,Kr];unfold fS vv;cases decide (30<(gT whole).length+(eh part).length)<;>cases decide (3<(Lib.trimPrefix digits [45]).length)<;>cases ok<;>rfl
def acV {e x:Nat}{letter:UInt8}{ok:Bool}{whole part digits:List UInt8}{a b:Int}{c:List UInt8}(h1:whole.length<=200000)(h2:part.length<=200000)(h3:digits.length<=200001)(h4:(kh digits ok).length<=100):
 EZ (ev E) (e:Int) whole part (letter.toNat:Int) digits (x:Int) ok a b c μ=some (stT μ rn rp (fS whole part digits letter ok (if ok then x else e))):=by
 refine cm ?_;rw[Ul];cases ok with
 |true=>
  rw[bY,Yp h1 h2 h3 h4,bA];simp only[cX];cases fS whole part digits letter true x with|ok q=>exact zA _ _ _ _ _ _|error e=>exact zB _ _ _
 |false=>
  rw[bW,Yp h1 h2 h3 h4,bA];simp only[eD,dG];cases fS whole part digits letter false e with|ok q=>exact zA _ _ _ _ _ _|error e=>exact zB _ _ _
theorem iK {β:Type}{t:Tok}{k:Int->Int->List UInt8->Option β}:jo (.cv t.cv) k=k t.kind t.type t.text:=rfl
def aeI (h:Sc μ l i s fx r)(hs:s.length<=200000){whole part:List UInt8}{dot:Bool}{n:Nat}(hn:n<=s.length)(h1:whole.length<=200000)(h2:part.length<=200000)(h3:(cQ fx s n).2.1.length<=200001)(h4:(kh (cQ fx s n).2.1 (cQ fx s n).2.2.2).length<=100):
 uH (ev E) l i (n:Int) whole part dot 0 0 [] μ=some (stT μ nT lY (if !dot&& !(cQ fx s n).2.2.2 then(match fH whole with| .ok t=> .ok (t,n)| .error e=> .error e)else fS whole part (cQ fx s n).2.1 (cQ fx s n).1 (cQ fx s n).2.2.2 (if(cQ fx s n).2.2.2 then(cQ fx s n).2.2.1 else n))):=by
 refine cm ?_;rw[WO,aaB h hs hn];simp only[bU];rw[acV h1 h2 h3 h4,bA,aaC bu];have hreal:kS (ev E) fv [] [(4,0),(5,0)] (stT μ rn rp (fS whole part (cQ fx s n).2.1 (cQ fx s n).1 (cQ fx s n).2.2.2 (if(cQ fx s n).2.2.2 then(cQ fx s n).2.2.1 else n)))=
  some (stT μ nT lY (fS whole part (cQ fx s n).2.1 (cQ fx s n).1 (cQ fx s n).2.2.2 (if(cQ fx s n).2.2.2 then(cQ fx s n).2.2.1 else n))):=by
  cases fS whole part (cQ fx s n).2.1 (cQ fx s n).1 (cQ fx s n).2.2.2 (if(cQ fx s n).2.2.2 then(cQ fx s n).2.2.1 else n)with|ok q=>exact Ko _ _ _ _ _ _|error e=>exact Kq _ _ _
 rw[hreal];cases dot with
 |true=>rfl|false=>
  cases (cQ fx s n).2.2.2 with
  |true=>rfl|false=>
   simp only[bU,kO,cX];cases fH whole with|ok t=>simp only[aba,bL,iK];rfl|error e=>rfl
def UR (digits:List UInt8)(ok:Bool):(kh digits ok).length<=100:=by
 have hr:=uj digits;have:=Lib.itoa_length_le _ hr.1 hr.2;unfold kh;split
 ·omega
 ·simp
def TM (h:Sc μ l i s fx r)(hs:s.length<=200000){n:Nat}(hn:n<=s.length):
 (ev E).call 192 [LV.cv (CV.ref l i 0),bv (n:Int)] μ=some (zJ μ (fL fx s n)):=by
 have e46: ∀c:UInt8,decide ((c.toNat:Int)=46)=decide (c=46):=λc=>lU (k:=46) bu;have hle:=mY (fx:=fx) (p:=bR) hn;have hle2:=ls (fx:=fx) hle;have hle3:=mY (fx:=fx) (p:=bR) hle2;have hr1:=nO (fx:=fx) (s:=s) (p:=bR) (n:=n);have hr2:=nO (fx:=fx) (s:=s) (p:=bR) (n:=atE fx s (runE fx bR s n));have hx: ∀m,(cQ fx s m).2.1.length<=200001:=by
  intro m;unfold cQ;split
  ·have:=nO (fx:=fx) (s:=s) (p:=bR) (n:=expStart fx s m);simp only[cC,gu,ei];split<;>simp<;>omega
  ·simp
 have fin: ∀q:Except Int (Tok×Nat),kB (ev E) 192 fv [] (stT μ nT lY q)=some (zJ μ q):=by
  intro q;cases q with|ok q=>exact Mr _ _ _ _ _ _|error e=>simp only[stT];rw[Ms];rfl
 have hend:numEnd fx s n<=s.length:=by unfold numEnd;split<;>assumption
 have key: ∀(dot:Bool),ge fx s n=dot->(opt (uH (ev E) l i (numEnd fx s n:Nat) (eM fx s n) (ie fx s n) dot 0 0 [] μ) (kB (ev E) 192 fv []))=some (zJ μ (fL fx s n)):=by intro dot hd;rw[aeI h hs hend (by unfold eM;omega) (by unfold ie;split<;>first|omega|simp) (hx _) (UR _ _),bA,fin];unfold fL;rw[hd]
 refine b8 ?_;rw[acz,u6 h bu (λc=>qG) hn];simp only[bU];rw[mi h bu hle];simp only[bU,e46];have hw:eT fx bR s n=eM fx s n:=rfl;by_cases hc:atC fx s (runE fx bR s n)=46
 ·have hc':decide (atC fx s (runE fx bR s n)=46)=true:=by simp[hc]
  rw[hc',bY,TN h hs hle];simp only[bU];rw[u6 h bu (λc=>qG) hle2];simp only[bU];cases hdo:(dT fx s (runE fx bR s n)).2.2 with
  |false=>
   have hd:ge fx s n=true:=by simp[ge,hc,hdo]
   have:=key true hd;simp only[numEnd,ie,hd,cX]at this;simp only[bU,hw];exact this
  |true=>
   simp only[bU,hw];by_cases hz:eM fx s n=[]
   ·have hd:ge fx s n=true:=by simp[ge,hc,hz]
    have:=key true hd;simp only[numEnd,ie,hd,cX]at this;have h5:decide (eM fx s n=[])=true:=by simp[hz]
    rw[h5,bY];exact this
   ·have hd:ge fx s n=false:=by simp[ge,hdo,hz]
    have:=key false hd;simp only[numEnd,ie,hd,eD,dG]at this;have h5:decide (eM fx s n=[])=false:=by simp[hz]
    rw[h5,bW];exact this
 ·have hc':decide (atC fx s (runE fx bR s n)=46)=false:=by simp[hc]
  have hd:ge fx s n=false:=by simp[ge,hc]
  have:=key false hd;simp only[numEnd,ie,hd,eD,dG]at this;rw[hc',bW,hw];exact this
end
def eS (q:UInt8):List UInt8->Option (List UInt8×Nat)
 |[]=>none|[c]=>if c=q then some ([],1)else none|c::d::r=>if c=q then(if d=q then(eS q r).map (λx=>(q::x.1,x.2+2))else some ([],1))else(eS q (d::r)).map λx=>(c::x.1,x.2+1)
def sZ {q c:UInt8}(h:c≠q)(r:List UInt8):eS q (c::r)=(eS q r).map λx=>(c::x.1,x.2+1):=by
 cases r with|nil=>simp[eS,h]|cons d r=>rw[eS,bE h]
def qR {q:UInt8}(r:List UInt8):eS q (q::q::r)=(eS q r).map λx=>(q::x.1,x.2+2):=by rw[eS,bK rfl,bK rfl]
def qQ {q:UInt8}{r:List UInt8}(h: ∀d t,r=d::t->d≠q):eS q (q::r)=some ([],1):=by
 cases r with|nil=>simp[eS]|cons d r=>rw[eS,bK rfl,bE (h d r rfl)]
def Hd {q:UInt8}: ∀(a l:List UInt8),(∀b∈a,b≠q)->eS q (a++l)=(eS q l).map λx=>(a++x.1,a.length+x.2)
 |[],l,_=>by simp only[fb,cG,gC];cases eS q l<;>rfl|c::a,l,h=>by
  rw[ew,sZ (h c lG),Hd a l (λb hb=>h b (gj _ hb))];cases eS q l with|none=>rfl|some x=>simp only[d8,ew,cB];congr 2;omega
def Eo {q:UInt8}: ∀(l:List UInt8),(∀b∈l,b≠q)->eS q l=none
 |[],_=>rfl|c::r,h=>by rw[sZ (h c lG),Eo r (λb hb=>h b (gj _ hb))];rfl
def uc {q:UInt8}: ∀(n:Nat) (l:List UInt8),l.length<=n-> ∀t k,eS q l=some (t,k)->1<=k/\k<=l.length/\t.length+1<=k
 |0,l,hn,t,k,h=>by have:l=[]:=kM bu;subst this;cases h|n+1,[],hn,t,k,h=>by cases h|n+1,c::r,hn,t,k,h=>by
  simp only[cB]at hn |-;by_cases hc:c=q
  ·subst hc;cases r with
   |nil=>rw[qQ (by intro d t h;cases h)]at h;cases h;simp|cons d r=>
    by_cases hd:d=c
    ·subst hd;rw[qR]at h;cases hq:eS d r with|none=>rw[hq]at h;cases h|some x=>rw[hq]at h;cases h;simp only[cB]at hn |-;have:=uc n r bu x.1 x.2 hq;omega
    ·rw[qQ (by intro e t h;cases h;exact hd)]at h;cases h;simp
  ·rw[sZ hc]at h;cases hq:eS q r with|none=>rw[hq]at h;cases h|some x=>rw[hq]at h;cases h;have:=uc n r bu x.1 x.2 hq;simp only[cB];omega
def qd (l:List UInt8)(q:UInt8):(Lib.index l [q]= -1/\ ∀b∈l,b≠q)\/(∃a r,l=a++q::r/\(∀b∈a,b≠q)/\Lib.index l [q]=(a.length:Int)):=by
 induction l with
 |nil=>exact Or.inl ⟨rfl,bG⟩|cons c l ih=>
  by_cases hc:c=q
  ·subst hc;refine Or.inr ⟨[],l,rfl,bG,?_⟩;simp[Lib.index,List.isPrefixOf]
  ·have hp:([q].isPrefixOf (c::l))=false:=by
    have:(q == c)=false:=by simpa using λh:q=c=>hc h.symm
    simp[List.isPrefixOf,this]
   rcases ih with⟨h1,h2⟩|⟨a,r,h1,h2,h3⟩
   ·refine Or.inl ⟨?_,?_⟩
    ·simp only[Lib.index,hp,h1];rfl
    ·intro b hb;rcases eE.1 hb with rfl|hb
     ·exact hc
     ·exact h2 b hb
   ·refine Or.inr ⟨c::a,r,by rw[h1];rfl,?_,?_⟩
    ·intro b hb;rcases eE.1 hb with rfl|hb
     ·exact hc
     ·exact h2 b hb
    ·have hne:(Lib.index l [q] == -1)=false:=by rw[h3];simp;try omega
     simp only[Lib.index,hp,hne,h3];simp
def dbl:List UInt8->List UInt8
 |[]=>[]|c::r=>if c=39 then 39::39::dbl r else c::dbl r
def nZ: ∀(a l:List UInt8),(∀b∈a,b≠39)->dbl (a++l)=a++dbl l
 |[],l,_=>rfl|c::a,l,h=>by rw[ew,dbl,bE (h c lG),nZ a l (λb hb=>h b (gj _ hb))];rfl
def OH: ∀(l:List UInt8),(dbl l).length<=2*l.length
 |[]=>cw _|c::r=>by have:=OH r;unfold dbl;split<;>simp only[cB]<;>omega
def zO: ∀(k:Nat) (l:List UInt8),Lib.count l [39]<=k->Lib.replaceK [39] [39,39] k l=dbl l
 |0,l,h=>by
  rcases qd l 39 with⟨h1,h2⟩|⟨a,r,h1,h2,h3⟩
  ·have:=nZ l [] h2;simp only[eU,dbl]at this;rw[this];rfl
  ·exfalso;have:=Lib.count_hit (sub:=[39]) bG h3;omega
 |k+1,l,h=>by
  rcases qd l 39 with⟨h1,h2⟩|⟨a,r,h1,h2,h3⟩
  ·have:=nZ l [] h2;simp only[eU,dbl]at this;rw[this,Lib.replaceK,h1];rfl
  ·have hc:=Lib.count_hit (sub:=[39]) bG h3;rw[Lib.replaceK_hit _ _ _ _ _ h3];have hd:l.drop (a.length+([39]:List UInt8).length)=r:=by rw[h1,F7,<-gM,A7 rfl];rfl
   have ht:l.take a.length=a:=by rw[h1,A6 rfl]
   have hc':Lib.count l [39]=1+Lib.count r [39]:=by rw[hc,hd]
   rw[hd,ht,zO k r bu,h1,nZ a _ h2,dbl,bK rfl];simp
def FS (l:List UInt8):Lib.replaceAll l [39] [39,39]=dbl l:=by unfold Lib.replaceAll Lib.replace Lib.replaceNum;rw[bE co,bK (Or.inl co)];exact zO _ _ (cw _)
def zE:LV:= .cv (.v (.slice none 0 0))
def cj (l:List Tok):List CV:=l.map Tok.cv
def dE (l:List Nat):List CV:=l.map λ(n:Nat)=>bD (n:Int)
def tL (l:List Tok):LV:=if l=[]then zE else .osl (cj l)
def kL (l:List Nat):LV:=if l=[]then zE else .osl (dE l)
def scO (s:List UInt8)(fx:Bool)(out:List Tok)(kept:List Nat):Ob:= .cells [LV.str s,LV.bool fx,tL out,kL kept]
def scM (b:Mu)(s:List UInt8)(fx:Bool)(out:List Tok)(kept:List Nat):Mu:=b++[[scO s fx out kept]]
def vw (b:Mu)(o:Ob):b7 (b++[[o]]) b.length 0=o:=by simp[b7]
def vx (b:Mu)(o o':Ob):cq (b++[[o]]) b.length 0 o'=b++[[o']]:=by simp[cq]
section
variable {b:Mu}{s:List UInt8}{fx:Bool}{out:List Tok}{kept:List Nat}
def ql:Sc (scM b s fx out kept) b.length 0 s fx [tL out,kL kept]:=vw _ _
def UJ:gv (tL out)=some (cj out):=by unfold tL;split<;>rename_i h<;>(try subst h)<;>rfl
def UI:gv (kL kept)=some (dE kept):=by unfold kL;split<;>rename_i h<;>(try subst h)<;>rfl
def RA:cR (strip (tL out))=some (cj out):=by unfold tL;split<;>rename_i h<;>(try subst h)<;>rfl
def ac0 {a b c d:LV}:gh E.P 55 (.cells [a,b,c,d]) 3=some (d,.cells [a,b,c,strip d]):=bx
def abA {a b c d:LV}{l:List CV}:du E.P 55 (.cells [a,b,c,d]) 3 (LV.osl l)=some (.cells [a,b,c,.osl l]):=bx
def acZ {a b c d:LV}:gh E.P 35 (.cells [a,b,c,d]) 2=some (c,.cells [a,b,strip c,d]):=bx
def abz {a b c d:LV}{l:List CV}:du E.P 35 (.cells [a,b,c,d]) 2 (LV.osl l)=some (.cells [a,b,.osl l,d]):=bx
def Yo {a b c d:LV}:cD E.P 35 (.cells [a,b,c,d]) 2=some (strip c):=bx
def wA: ∀(l:List Nat),ee 1 (dE l)=true
 |[]=>rfl|a::l=>by have e:dE (a::l)=bD (a:Int)::dE l:=rfl;rw[e];simp only[ee];have:ga 1 (bD (a:Int))=true:=rfl;rw[this];exact wA l
def wB: ∀(l:List Tok),ee 3 (cj l)=true
 |[]=>rfl|a::l=>by have e:cj (a::l)=a.cv::cj l:=rfl;rw[e];simp only[ee];have:ga 3 a.cv=true:=rfl;rw[this];exact wB l
def uk {n:Nat}: ∀(l:List Nat),dl n (dE l)=true
 |[]=>rfl|a::l=>by have e:dE (a::l)=bD (a:Int)::dE l:=rfl;rw[e];simp only[dl];have:below n (bD (a:Int))=true:=rfl;rw[this];exact uk l
def ul {n:Nat}: ∀(l:List Tok),dl n (cj l)=true
 |[]=>rfl|a::l=>by have e:cj (a::l)=a.cv::cj l:=rfl;rw[e];simp only[dl];have:below n a.cv=true:=rfl;rw[this];exact ul l
def PN {a c:List Nat}(h:a.length+c.length<=1000000):ef 1 (dE a) (dE c)=true:=by unfold ef;rw[wA,wA];simp[small,dE];omega
def PO {a c:List Tok}(h:a.length+c.length<=1000000):ef 3 (cj a) (cj c)=true:=by unfold ef;rw[wB,wB];simp[small,cj];omega
def aam {n:Nat}:LV.osl (dE kept++[bD (n:Int)])=kL (kept++[n]):=by unfold kL;rw[bE bG];simp[dE]
def abp {t:Tok}:LV.osl (cj out++[t.cv])=tL (out++[t]):=by unfold tL;rw[bE bG];simp[cj]
def Zf (hs:s.length<=200000): ∀(k a e:Nat) (kept:List Nat),a+k=e->e<=300000->kept.length+k<=600000->
 IA (ev E) b.length 0 (e:Int) (a:Int) (scM b s fx out kept)=some (yT (scM b s fx out (kept++List.range' a k))):=by
 intro k
 induction k with
 |zero=>intro a e kept hk he hq;refine dy ?_;rw[J6];have h1:decide ((a:Int)<(e:Int))=false:=cr;rw[h1,bW];simp|succ k ih=>
  intro a e kept hk he hq;refine dy ?_;rw[J6];have h1:decide ((a:Int)<(e:Int))=true:=cr;rw[h1,bY];unfold scM;rw[vw];unfold scO;rw[ac0,bA,UI,bA];have ha:[bD (a:Int)]=dE [a]:=rfl;rw[ha,PN cr,cL];have hb:dl (b.length+1) (dE kept++dE [a])=true:=by
   have:dE kept++dE [a]=dE (kept++[a]):=by simp[dE]
   rw[this];exact uk _
  rw[hb,cL,vx,vw,abA,bA,vx,gA bu bu];have:=ih (a+1) e (kept++[a]) bu he cr;unfold scM scO at this;rw[<-ha,aam];have e1:((a+1:Nat):Int)=(a:Int)+1:=bu;rw[<-e1,this];simp[List.range'_succ]
def TP (hs:s.length<=200000){a e:Nat}(h:a<=e)(he:e<=300000)(hk:kept.length+(e-a)<=600000):
 (ev E).call 205 [LV.cv (CV.ref b.length 0 0),bv (a:Int),bv (e:Int)] (scM b s fx out kept)=some (.ret (.ltup []) (scM b s fx out (kept++List.range' a (e-a)))):=by
 refine b8 ?_;rw[acE,Zf hs (e-a) a e kept bu he hk,bA,M6]
def eq (t:List UInt8):List UInt8:=[39]++dbl t++[39]
def TQ {t:List UInt8}{μ:Mu}(h:t.length<=200000):(ev E).call 206 [LV.str t] μ=some (.ret (.cv (Tok.cv ⟨1,6,eq t⟩)) μ):=by refine b8 ?_;have hd:=OH t;rw[acF,aaH bu bG bG,bL,dw,bA,FS,fC cr,cL,fC cr,cL];rfl
def uT {α:Type}{l:List α}{a e:Nat}(h1:a<=e)(h2:e<=l.length):ku l (a:Int) (e:Int)=some ((l.drop a).take (e-a)):=by unfold ku;have:(decide ((0:Int)<=(a:Int))&&decide ((a:Int)<=(e:Int))&&decide ((e:Int)<=(l.length:Int)))=true:=cr;rw[this];have e1:((a:Int)).toNat=a:=bu;have e2:((e:Int) -(a:Int)).toNat=e-a:=bu;simp only[e1,e2]
def Cv {α:Type}{l:List α}{a:Nat}(h1:a<=l.length):ku l (a:Int) (l.length:Int)=some (l.drop a):=by rw[uT h1 (cw _)];congr 1;apply AW;simp
noncomputable def Jg (b:Mu)(q:Int)(from_ i:Nat)(t:List UInt8)(μ:Mu):Option (List UInt8×Nat)->St
 |none=>tM (lV 7) μ|some (x,k)=>yS b.length 0 ((i+k:Nat):Int) (from_:Int) (t++x) 0 0 [] μ
def HB {c:UInt8}(l:List UInt8):Lib.hasPrefix l [c]=(match l with|[]=>false|d::_=>decide (d=c)):=by
 cases l with
 |nil=>simp[Lib.hasPrefix]|cons d r=>
  by_cases h:d=c
  ·subst h;simp[Lib.hasPrefix,List.isPrefixOf]
  ·have:(c == d)=false:=by simpa using λe:c=d=>h e.symm
   simp[Lib.hasPrefix,List.isPrefixOf,h,this]
noncomputable def Cz (b:Mu)(i:Int)(q:UInt8)(from_:Int)(t:List UInt8)(μ:Mu):List UInt8->St
 |[]=>tF b.length 0 i [q] from_ t 0 0 [] μ|d::_=>if d=q then yq b.length 0 i [q] from_ (t++[q]) 0 0 [] μ else tF b.length 0 i [q] from_ t 0 0 [] μ
def Ze (hs:s.length<=200000){q:UInt8}{from_:Nat}: ∀(k i:Nat) (t:List UInt8),s.length-i<=k->i<=s.length->t.length<=i->
 Iz (ev E) b.length 0 (i:Int) [q] (from_:Int) t 0 0 [] (scM b s fx out kept)=some (Jg b 0 from_ i t (scM b s fx out kept) (eS q (s.drop i))):=by
 intro k
 induction k with
 |zero=>intro i t hk hi ht;refine dy ?_;have h:=ql (b:=b) (s:=s) (fx:=fx) (out:=out) (kept:=kept);have hd:s.drop i=[]:=gX bu;rw[J5,h,jW,fX,bA,dw,bA,Cv hi,bA,hd,TR bG];simp only[bU];have hx:Lib.index [] [q]= -1:=rfl;have hx2:decide ((-1:Int)<0)=true:=co;rw[hx,hx2,bY,oW,d5];rfl|succ k ih=>
  intro i t hk hi ht;refine dy ?_;have h:=ql (b:=b) (s:=s) (fx:=fx) (out:=out) (kept:=kept);rw[J5,h,jW,fX,bA,dw,bA,Cv hi,bA,TR cr];simp only[bU];rcases qd (s.drop i) q with⟨h1,h2⟩|⟨a,r,h1,h2,h3⟩
  ·have hx2:decide ((-1:Int)<0)=true:=co;rw[h1,hx2,bY,oW,d5,Eo _ h2];rfl
  ·have hx2:decide ((a.length:Int)<0)=false:=bG;have hlen:a.length+1+r.length=s.length-i:=by
    have:(s.drop i).length=(a++q::r).length:=by rw[h1]
    simp only[gZ,cC,cB]at this;omega
   have hr:s.drop (i+(a.length+1))=r:=by rw[<-gM,h1];have:a++q::r=(a++[q])++r:=bG;rw[this,A7 bG]
   have hta:(s.drop i).take a.length=a:=by rw[h1,A6 rfl]
   rw[h3,hx2,bW];have hG:Il (ev E) b.length 0 (i:Int) [q] (from_:Int) t (a.length:Int) 0 0 [] (scM b s fx out kept)=
    some (Cz b ((i+(a.length+1):Nat):Int) q (from_:Int) (t++a) (scM b s fx out kept) r):=by
    refine cm ?_;have w1:IntKind.wrap .i64 ((i:Int)+(a.length:Int))=((i+a.length:Nat):Int):=by rw[gA bu bu];omega
    have w2:IntKind.wrap .i64 ((a.length:Int)+1)=((a.length+1:Nat):Int):=by rw[gA bu bu];omega
    have w3:IntKind.wrap .i64 ((i:Int)+((a.length+1:Nat):Int))=((i+(a.length+1):Nat):Int):=by rw[gA bu bu];omega
    rw[WQ,h,jW,fX,w1,w2,w3];simp only[bA,dw];rw[uT bu bu,bA];have e2:i+a.length-i=a.length:=bu;rw[e2,hta,fC bu,cL,Cv bu,bA,hr,aaF,bL,da,bA,HB];have hsm:small ((t++a).length+[q].length)=true:=fC cr;cases r with
    |nil=>simp only[dF,bY,Cz]|cons d r'=>
     by_cases hdq:d=q
     ·subst hdq;simp only[g0,db,bW,Cz,cX];rw[hsm,cL]
     ·simp only[hdq,oo,dF,bY,Cz,dG]
   rw[hG,bA,h1,Hd a _ h2];cases r with
   |nil=>rw[qQ (by intro d t h;cases h)];simp only[Cz];rw[BD];simp[Jg]|cons d r'=>
    by_cases hdq:d=q
    ·subst hdq;simp only[Cz,cX];simp only[cB]at hlen;rw[qR,Mv,gA bu bu];have e1:((i+(a.length+1):Nat):Int)+1=((i+(a.length+2):Nat):Int):=bu;have hr2:s.drop (i+(a.length+2))=r':=by have:i+(a.length+2)=(i+(a.length+1))+1:=bu;rw[this,<-gM,hr];rfl
     rw[e1,ih (i+(a.length+2)) _ bu bu cr,hr2];cases eS d r' with
     |none=>rfl|some x=>
      simp only[Jg,d8];congr 2
      ·omega
      ·simp
    ·simp only[Cz,hdq,dG];rw[qQ (by intro e t h;cases h;exact hdq),BD];simp[Jg]
def jn (s:List UInt8)(n:Nat):Except Int (Tok×Nat):=
 match eS ((s[n]?).getD 0) (s.drop (n+1))with
 |none=> .error 7|some (t,k)=>if 60<t.length then .error 8 else .ok (⟨1,6,eq t⟩,n+1+k)
def FL (b:Mu)(s:List UInt8)(fx:Bool)(out:List Tok)(kept:List Nat):Except Int (Tok×Nat×List Nat)->Out
 | .ok q=> .ret (.ltup [.cv q.1.cv,bv (q.2.1:Int)]) (scM b s fx out (kept++q.2.2))| .error e=> .panic (lV e) (scM b s fx out kept)
def ig (s:List UInt8)(n:Nat):Except Int (Tok×Nat×List Nat):=
 match jn s n with
 | .ok q=> .ok (q.1,q.2,List.range' n (q.2-n))| .error e=> .error e
def aay (hs:s.length<=200000)(hk:kept.length<=200000){n:Nat}(hn:n<s.length):
 (ev E).call 194 [LV.cv (CV.ref b.length 0 0),bv (n:Int)] (scM b s fx out kept)=some (FL b s fx out kept (ig s n)):=by
 refine b8 ?_;have h:=ql (b:=b) (s:=s) (fx:=fx) (out:=out) (kept:=kept);rw[acB,h,jW,fX,bA,dw,bA,gA bu bu];have e1:(n:Int)+1=((n+1:Nat):Int):=bu;have e2:n+1-n=1:=bu;have hd:s.drop n=s[n]::s.drop (n+1):=iM hn;rw[e1,uT bu bu,bA,e2,hd];have e3:List.take 1 (s[n]::s.drop (n+1))=[s[n]]:=rfl;rw[e3,Ze hs s.length (n+1) [] bu bu bG,bA];unfold ig jn;rw[dA hn,gB];cases hq:eS s[n] (s.drop (n+1))with
 |none=>exact M5 _ _ _|some x=>
  obtain⟨t,k⟩:=x;have hl:=uc _ _ (cw _) t k hq;rw[gZ]at hl;simp only[Jg,fb];rw[M4];by_cases h60:60<t.length
  ·have:decide ((60:Int)<(t.length:Int))=true:=cr;rw[this,bY,oW,d5,bK h60];rfl
  ·have:decide ((60:Int)<(t.length:Int))=false:=cr;rw[this,bW,bE h60];have hG:E8 (ev E) b.length 0 ((n+1+k:Nat):Int) (n:Int) t 0 0 [] (scM b s fx out kept)=some (wh ((n+1+k:Nat):Int) 1 6 (eq t) (scM b s fx out (kept++List.range' n (n+1+k-n)))):=by refine cm ?_;rw[Uq,TP hs bu bu bu];simp only[bU];rw[TQ bu,bL,iK]
   rw[hG,bA,Kt];rfl
end
end Go.Abs
namespace Go.Proofs.YtmemoghbijcebaaGreatDoor.Glue
def Y5:laidOutB Tryz.prog=true:=by kernel_rfl
end Go.Proofs.YtmemoghbijcebaaGreatDoor.Glue
namespace Go.Abs.Ga
open Go Go.Proofs
section
variable {P:Program}{t:TypeId}{c:CV}
def is_int (ht:mf P t=false)(h:if mf P t=true then ∃ys,c= .agg ys/\IsL [.int .i64] ys else IsL [.int .i64] [c]): ∃n:Int,LV.cv c=LV.int .i64 n/\True:=by simp only[ht,Bool.false_eq_true,if_false,IsL,Is]at h;obtain⟨y,r,e,⟨n,rfl,_⟩,_⟩:=h;injection e with e _;subst e;exact⟨n,rfl,trivial⟩
end
end Go.Abs.Ga
set_option maxRecDepth 100000
namespace Go.Abs
open Go Go.Proofs
section
variable {b:Mu}{s:List UInt8}{fx:Bool}{out:List Tok}{kept:List Nat}
def acO (ρ:Rho)(a:List CV)(b:List UInt8)(μ:Mu):bN E ρ 82 [LV.osl a,LV.str b] μ=
 callK (ρ.call 126 [LV.osl a,LV.str b] μ) (λv1 μ2=>opt (bI .i64 v1) λn5=>some (.ret (LV.bool (decide ((0:Int)<=n5))) μ2)) (λv4 μ3=>bB (below (List.length μ3) v4) (some (.panic v4 μ3))):=bx
def aaS (ρ:Rho)(a:List CV)(b:List UInt8)(μ:Mu):bN E ρ 126 [LV.osl a,LV.str b] μ=bN E ρ 126 [LV.cv (CV.sl a),LV.str b] μ:=bx
def Y6 {l:List (List UInt8)}{x:List UInt8}{μ:Mu}(hl:l.length<=1000000):(ev E).call 126 [LV.osl (j0 l),LV.str x] μ=some (.ret (bv (wW x l 0)) μ):=by refine b8 ?_;rw[aaS];exact Ve hl
def TV {l:List (List UInt8)}{x:List UInt8}{μ:Mu}(hl:l.length<=1000000):(ev E).call 82 [LV.osl (j0 l),LV.str x] μ=some (.ret (LV.bool (l.contains x)) μ):=by refine b8 ?_;rw[acO,Y6 hl];simp only[bU];rw[CE]
def j9 (fx:Bool)(s:List UInt8)(n:Nat):Int:=fu (eT fx bR s n)
def wU (fx:Bool)(s:List UInt8)(n:Nat):UInt8:=atC fx s (runE fx bR s n)
def holE (fx:Bool)(s:List UInt8)(n:Nat):Nat:=atE fx s (runE fx bR s n)
def rE (fx:Bool)(s:List UInt8)(n:Nat):Prop:=(eT fx bR s n).length<=2/\1<=j9 fx s n/\j9 fx s n<=60/\(wU fx s n=72\/wU fx s n=104)
instance (fx:Bool)(s:List UInt8)(n:Nat):Decidable (rE fx s n):=by unfold rE;infer_instance
def wV (fx:Bool)(s:List UInt8)(n:Nat):Except Int (Tok×Nat×List Nat):=
 if s.length<holE fx s n+(j9 fx s n).toNat then .error 7
 else .ok (⟨1,6,eq ((s.drop (holE fx s n)).take (j9 fx s n).toNat)⟩,holE fx s n+(j9 fx s n).toNat,List.range' (holE fx s n) (j9 fx s n).toNat)
def Xb (b:Mu)(s:List UInt8)(fx:Bool)(out:List Tok)(kept:List Nat):Except Int (Tok×Nat×List Nat)->Out
 | .ok q=> .ret (.ltup [.cv q.1.cv,bv (q.2.1:Int),LV.bool true]) (scM b s fx out (kept++q.2.2))| .error e=> .panic (lV e) (scM b s fx out kept)
def Yf:Tok:=⟨0,0,[]⟩
def aax (hs:s.length<=200000)(hk:kept.length<=200000){n:Nat}(hn:n<=s.length):
 (ev E).call 188 [LV.cv (CV.ref b.length 0 0),bv (n:Int)] (scM b s fx out kept)=some (if rE fx s n then Xb b s fx out kept (wV fx s n)else .ret (.ltup [.cv Yf.cv,bv (n:Int),LV.bool false]) (scM b s fx out kept)):=by
 have h:=ql (b:=b) (s:=s) (fx:=fx) (out:=out) (kept:=kept);have hr:=nO (fx:=fx) (s:=s) (p:=bR) (n:=n);have hle:=mY (fx:=fx) (p:=bR) hn;have hE:holE fx s n<=s.length:=ls hle;have e72: ∀c:UInt8,decide ((c.toNat:Int)=72)=decide (c=72):=λc=>lU (k:=72) bu;have e104: ∀c:UInt8,decide ((c.toNat:Int)=104)=decide (c=104):=λc=>lU (k:=104) bu;refine b8 ?_;rw[acv,u6 h bu (λc=>qG) hn];simp only[bU];rw[mi h bu hle];simp only[bU];rw[DW bu,wE];simp only[bU,mL,e72,e104];have hNd:fu (eT fx bR s n)=j9 fx s n:=rfl;have hCd:atC fx s (runE fx bR s n)=wU fx s n:=rfl;have hEd:atE fx s (runE fx bR s n)=holE fx s n:=rfl;rw[hNd,hCd,hEd];by_cases h1:2<(eT fx bR s n).length
 ·have:decide ((2:Int)<((eT fx bR s n).length:Int))=true:=cr;rw[this,bY,bE (by unfold rE;omega)];rfl
 ·have e1:decide ((2:Int)<((eT fx bR s n).length:Int))=false:=cr;rw[e1,bW];by_cases h2:j9 fx s n<1
  ·have:decide (j9 fx s n<1)=true:=by simp[h2]
   rw[this,bY,bE (by unfold rE;omega)];rfl
  ·have e2:decide (j9 fx s n<1)=false:=by simp[h2]
   rw[e2,bW];by_cases h3:60<j9 fx s n
   ·have:decide (60<j9 fx s n)=true:=by simp[h3]
    rw[this,bY,bE (by unfold rE;omega)];rfl
   ·have e3:decide (60<j9 fx s n)=false:=by simp[h3]
    rw[e3,bW];obtain⟨m,hm⟩: ∃m:Nat,j9 fx s n=(m:Int):=⟨(j9 fx s n).toNat,bu⟩;have hG:C2 (ev E) b.length 0 (holE fx s n:Nat) (j9 fx s n) 0 0 [] (scM b s fx out kept)=some (match wV fx s n with| .ok q=>yh (q.2.1:Int) true q.1.kind q.1.type q.1.text (scM b s fx out (kept++q.2.2))| .error e=>yi (lV e) (scM b s fx out kept)):=by
     refine cm ?_;have w1:IntKind.wrap .i64 ((holE fx s n:Int)+(m:Int))=((holE fx s n+m:Nat):Int):=by rw[gA bu bu];omega
     have e0:((m:Int)).toNat=m:=bu;unfold wV;rw[WJ,h,jW,fX,hm,w1,e0];simp only[bU];by_cases h4:s.length<holE fx s n+m
     ·have:decide ((s.length:Int)<((holE fx s n+m:Nat):Int))=true:=cr;rw[this,bY,oW,d5,bK h4]
     ·have:decide ((s.length:Int)<((holE fx s n+m:Nat):Int))=false:=cr;rw[this,bW,bE h4];have hG8:Ii (ev E) b.length 0 (holE fx s n:Nat) (m:Int) 0 0 [] (scM b s fx out kept)=some (yj ((holE fx s n+m:Nat):Int) true 1 6 (eq ((s.drop (holE fx s n)).take m)) (scM b s fx out (kept++List.range' (holE fx s n) m))):=by refine cm ?_;have h':=ql (b:=b) (s:=s) (fx:=fx) (out:=out) (kept:=kept++List.range' (holE fx s n) m);have e5:holE fx s n+m-holE fx s n=m:=bu;rw[WK,w1,TP hs bu bu bu,e5];simp only[bU];rw[h',jW,fX];simp only[bU];rw[uT bu bu,bA,e5,TQ cr,bL,iK]
      rw[hG8,bA,Mk]
    have hfin:(opt (C2 (ev E) b.length 0 (holE fx s n:Nat) (j9 fx s n) 0 0 [] (scM b s fx out kept)) (kB (ev E) 188 sq []))=some (Xb b s fx out kept (wV fx s n)):=by
     rw[hG,bA];cases wV fx s n with|ok q=>exact Mi _ _ _ _ _ _ _|error e=>exact Mj _ _ _
    by_cases h5:wU fx s n=72
    ·have:decide (wU fx s n=72)=true:=by simp[h5]
     rw[this,bK ⟨bu,bu,bu,Or.inl h5⟩];exact hfin
    ·have e5:decide (wU fx s n=72)=false:=by simp[h5]
     rw[e5];by_cases h6:wU fx s n=104
     ·have:decide (wU fx s n=104)=true:=by simp[h6]
      rw[this,bK ⟨bu,bu,bu,Or.inr h6⟩];exact hfin
     ·have e6:decide (wU fx s n=104)=false:=by simp[h6]
      rw[e6,bE (by unfold rE;intro hh;exact hh.2.2.2.elim h5 h6)];rfl
def CH (fx:Bool)(out:List Tok):Bool:=fx&&(match out.getLast? with|none=>true|some t=>decide (t.kind=2)&&[[40],[44],[47],[61]].contains t.text)
def aaw (ho:out.length<=200000):(ev E).call 187 [LV.cv (CV.ref b.length 0 0)] (scM b s fx out kept)=some (.ret (LV.bool (CH fx out)) (scM b s fx out kept)):=by
 refine b8 ?_;have h:=ql (b:=b) (s:=s) (fx:=fx) (out:=out) (kept:=kept);rw[acu,h,CS,xw];simp only[bU];cases fx with
 |false=>rfl|true=>
  simp only[bU];have hlen:(cj out).length=out.length:=by simp[cj]
  have hG:RP (ev E) b.length 0 (scM b s true out kept)=some (tC (CH true out) (scM b s true out kept)):=by
   refine cm ?_;rw[WH,h,Yo,bA,RA,bA,hlen];by_cases h0:out=[]
   ·subst h0;rfl
   ·have hpos:0<out.length:=by
     cases out with|nil=>exact absurd rfl h0|cons a r=>simp
    have e0:decide ((out.length:Int)=0)=false:=by simp[h0]
    rw[e0,bW];have hg:out.getLast?=some (out.getLast h0):=List.getLast?_eq_some_getLast h0;have hG5:RQ (ev E) b.length 0 (scM b s true out kept)=some (tD (CH true out) (scM b s true out kept)):=by
     refine cm ?_;rw[WI,h,Yo,bA,RA,bA,bA,RA,bA,hlen,gA bu bu];have e1:(out.length:Int) -1=((out.length-1:Nat):Int):=bu;have e2:(cj out)[out.length-1]? =some (out.getLast h0).cv:=by unfold cj;rw[fP,dA bu,List.getLast_eq_getElem];rfl
     rw[e1,mt,e2,bA,iK];unfold CH;rw[hg];simp only[lI];by_cases hk:(out.getLast h0).kind=2
     ·have:decide ((out.getLast h0).kind=2)=true:=by simp[hk]
      rw[this,bY];have e3:LV.osl [CV.str ([40]:List UInt8),CV.str ([44]:List UInt8),CV.str ([47]:List UInt8),CV.str ([61]:List UInt8)]=LV.osl (j0 [[40],[44],[47],[61]]):=rfl;rw[e3,TV bG];simp only[bU,lI]
     ·have:decide ((out.getLast h0).kind=2)=false:=by simp[hk]
      rw[this,bW,vH]
    rw[hG5,bA,Mh]
  rw[hG,bA,Mg]
def kl (t:List UInt8):Option (List UInt8):=
 if t=[60,61]then some [46,76,69,46]else if t=[62,61]then some [46,71,69,46]else if t=[61,61]then some [46,69,81,46]else if t=[47,61]then some [46,78,69,46]
 else if t=[60]then some [46,76,84,46]else if t=[62]then some [46,71,84,46]else none
def iE (fx:Bool)(s:List UInt8)(n:Nat):Except Int (Tok×Nat):=
 let a:=atC fx s n;let m:=atE fx s n;let c:=atC fx s m
 match kl [a,c]with
 |some w=> .ok (⟨2,0,w⟩,atE fx s m)|none=>if c≠0/\d6.contains [a,c]then .ok (⟨2,0,[a,c]⟩,atE fx s m)
  else match kl [a]with
   |some w=> .ok (⟨2,0,w⟩,m)|none=>if d6.contains [a]then .ok (⟨2,0,[a]⟩,m)else .error 7
end
def ksV:List Value:=[Value.string ⟨⟨([60,61]:List UInt8)⟩⟩,Value.string ⟨⟨([62,61]:List UInt8)⟩⟩,Value.string ⟨⟨([61,61]:List UInt8)⟩⟩,Value.string ⟨⟨([47,61]:List UInt8)⟩⟩,Value.string ⟨⟨([60]:List UInt8)⟩⟩,Value.string ⟨⟨([62]:List UInt8)⟩⟩]
def vsV:List CV:=[CV.str ([46,76,69,46]:List UInt8),CV.str ([46,71,69,46]:List UInt8),CV.str ([46,69,81,46]:List UInt8),CV.str ([46,78,69,46]:List UInt8),CV.str ([46,76,84,46]:List UInt8),CV.str ([46,71,84,46]:List UInt8)]
section
variable {b:Mu}{s:List UInt8}{fx:Bool}{out:List Tok}{kept:List Nat}{μ:Mu}
def TS:(ev E).call 215 [] μ=some (.ret (LV.cv (CV.mview ksV vsV)) μ):=b8 (by rw[acK];rfl)
theorem JK {s:S}:AD (LV.cv (CV.mview ksV vsV)) s μ=some (ksV,vsV):=rfl
def OR:oU .string ksV=true:=co
def DI (t:List UInt8):kD ksV vsV (Value.string ⟨⟨t⟩⟩)=(kl t).map CV.str:=by
 have h: ∀u:List UInt8,Az (Value.string ⟨⟨t⟩⟩) (Value.string ⟨⟨u⟩⟩)=decide (t=u):=λu=>rfl;simp only[ksV,vsV,kD,h];unfold kl;by_cases h1:t=[60,61]
 ·simp[h1]
 ·by_cases h2:t=[62,61]
  ·simp[h2]
  ·by_cases h3:t=[61,61]
   ·simp[h3]
   ·by_cases h4:t=[47,61]
    ·simp[h4]
    ·by_cases h5:t=[60]
     ·simp[h5]
     ·by_cases h6:t=[62]
      ·simp[h6]
      ·simp[h1,h2,h3,h4,h5,h6]
def Z8 {a:UInt8}:de [CV.int .u8 (a.toNat:Int)]=some [a]:=fQ [a]
def Z9 {a c:UInt8}:de [CV.int .u8 (a.toNat:Int),CV.int .u8 (c.toNat:Int)]=some [a,c]:=fQ [a,c]
def U3 {a:UInt8}{m:Nat}{x y:Int}{z:List UInt8}:Nz (ev E) (m:Int) [a] x y z μ=some (stT μ ru oC (if d6.contains [a]then .ok (⟨2,0,[a]⟩,m)else .error 7)):=by
 refine cm ?_;rw[Ur,Qr];simp only[bU];rw[DZ (l:=d6) co];simp only[bU];cases d6.contains [a]with|true=>rfl|false=>rw[dF,bY,oW,d5];rfl
def one (a:UInt8)(m:Nat):Except Int (Tok×Nat):=match kl [a]with
 |some w=> .ok (⟨2,0,w⟩,m)|none=>if d6.contains [a]then .ok (⟨2,0,[a]⟩,m)else .error 7
def K2 {a:UInt8}{m:Nat}{x y:Int}{z:List UInt8}:Im (ev E) (a.toNat:Int) (m:Int) x y z μ=some (stT μ qv qw (one a m)):=by
 refine cm ?_;rw[WS,Z8,bA,TS,bL];simp only[bU,mL,JK,OR,DI];unfold one;cases kl [a]with
 |some w=>rfl|none=>
  simp only[Option.map_none,optE];rw[U3,bA];cases d6.contains [a]with|true=>exact Ku _ _ _ _ _ _|false=>exact Kv _ _ _
def Xr {a c:UInt8}{m e:Nat}{x y:Int}{z:List UInt8}:RX (ev E) (a.toNat:Int) (m:Int) (c.toNat:Int) (e:Int) [a,c] x y z μ=some (stT μ nU lZ (if c≠0/\d6.contains [a,c]then .ok (⟨2,0,[a,c]⟩,e)else one a m)):=by
 refine cm ?_;have hone:kS (ev E) m9 [] [(4,0),(5,0)] (stT μ qv qw (one a m))=some (stT μ nU lZ (one a m)):=by
  cases one a m with|ok q=>exact My _ _ _ _ _ _|error e=>exact Mz _ _ _
 rw[WR,ut,K2,bA,hone,Qr];simp only[bU];rw[DZ (l:=d6) co];simp only[bU];by_cases hc:c=0
 ·subst hc;rfl
 ·have h1:(c != 0)=true:=by simp[hc]
  rw[h1];simp only[bU,hc,ne_eq,not_false_eq_true,kK];cases d6.contains [a,c]with|true=>rfl|false=>rw[bW,K2,bA,hone];rfl
def aaz {l i:Nat}{r:List LV}(h:Sc μ l i s fx r)(hs:s.length<=200000){n:Nat}(hn:n<=s.length):
 (ev E).call 195 [LV.cv (CV.ref l i 0),bv (n:Int)] μ=some (zJ μ (iE fx s n)):=by
 have hle:=ls (fx:=fx) hn;refine b8 ?_;rw[acC,mi h bu hn];simp only[bU];rw[mi h bu hle];simp only[bU];rw[Z9,bA,TS,bL];simp only[bU,mL,JK,OR,DI];unfold iE;simp only;rw[Xr,bA];cases kl [atC fx s n,atC fx s (atE fx s n)]with
 |some w=>rfl|none=>
  simp only[Option.map_none,optE];have: ∀q:Except Int (Tok×Nat),kB (ev E) 195 m9 [] (stT μ nU lZ q)=some (zJ μ q):=by
   intro q;cases q with|ok q=>exact Mw _ _ _ _ _ _|error e=>exact Mx _ _ _
  rw[this];rfl
def noK:Except Int (Tok×Nat)->Except Int (Tok×Nat×List Nat)
 | .ok q=> .ok (q.1,q.2,[])| .error e=> .error e
def gz (w:List UInt8):Tok:=if w=nE\/w=md then⟨1,5,w⟩else⟨2,0,w⟩
def gi (fx:Bool)(s:List UInt8)(n:Nat)(c:UInt8):Except Int (Tok×Nat×List Nat):=
 if dx c then(if 31<(eT fx dX s n).length then .error 4 else .ok (⟨0,0,up (eT fx dX s n)⟩,runE fx dX s n,[]))
 else if bR c||(decide (c=46)&&bR (atC fx s (n+1)))then noK (fL fx s n)
 else if c=46 then(if(dT fx s n).2.2 then .ok (gz (dT fx s n).1,(dT fx s n).2.1,[])else .error 7)
 else if c=39\/c=34 then ig s n
 else noK (iE fx s n)
def lD (fx:Bool)(s:List UInt8)(out:List Tok)(n:Nat):Except Int (Tok×Nat×List Nat):=
 if CH fx out&&bR ((s[n]?).getD 0)&&decide (rE fx s n)then wV fx s n else gi fx s n ((s[n]?).getD 0)
def stK (b:Mu)(s:List UInt8)(fx:Bool)(out:List Tok)(kept:List Nat):Except Int (Tok×Nat×List Nat)->St
 | .ok q=>ff (q.2.1:Int) q.1.kind q.1.type q.1.text (scM b s fx out (kept++q.2.2))| .error e=>dB (lV e) (scM b s fx out kept)
def Pi {q:Except Int (Tok×Nat)}:stT (scM b s fx out kept) ff dB q=stK b s fx out kept (noK q):=by
 cases q with|ok q=>simp only[stT,noK,stK,eU]|error e=>rfl
def U1 {w:List UInt8}{e:Nat}{x y:Int}{z:List UInt8}:(opt (nR (ev E) w (e:Int) x y z μ) (kS (ev E) iO [.block 0,.seq (cN 169 63)] [(4,0),(5,0)]))=some (ff (e:Int) (gz w).kind (gz w).type (gz w).text μ):=by
 have:nR (ev E) w (e:Int) x y z μ=some (oB (e:Int) (gz w).kind (gz w).type (gz w).text μ):=by
  refine cm ?_;rw[Uj];have h3:([46,84,82,85,69,46]:List UInt8)=nE:=rfl;have h4:([46,70,65,76,83,69,46]:List UInt8)=md:=rfl;rw[h3,h4];unfold gz;by_cases h1:w=nE
  ·simp[h1]
  ·by_cases h2:w=md
   ·simp[h2]
   ·simp[h1,h2]
 rw[this,bA,Kk]
def U2 (hs:s.length<=200000){n:Nat}(hn:n<=s.length){x y:Int}{z:List UInt8}:(opt (uE (ev E) b.length 0 (n:Int) x y z (scM b s fx out kept)) (kS (ev E) iO [] [(4,0),(5,0)]))=some (stK b s fx out kept (noK (iE fx s n))):=by
 have:uE (ev E) b.length 0 (n:Int) x y z (scM b s fx out kept)=some (stT (scM b s fx out kept) wb wc (iE fx s n)):=by
  refine cm ?_;rw[Uk,aaz ql hs hn];cases iE fx s n with|ok q=>simp only[zJ,bU,iK];rfl|error e=>rfl
 rw[this,bA,<-Pi];cases iE fx s n with|ok q=>exact Kl _ _ _ _ _ _|error e=>exact Km _ _ _
def Xp (hs:s.length<=200000)(hk:kept.length<=200000){n:Nat}(hn:n<s.length){x y:Int}{z:List UInt8}:xR (ev E) b.length 0 (n:Int) (((s[n]?).getD 0).toNat:Int) x y z (scM b s fx out kept)=some (stK b s fx out kept (gi fx s n ((s[n]?).getD 0))):=by
 have h:=ql (b:=b) (s:=s) (fx:=fx) (out:=out) (kept:=kept);have e46: ∀c:UInt8,decide ((c.toNat:Int)=46)=decide (c=46):=λc=>lU (k:=46) bu;have e39: ∀c:UInt8,decide ((c.toNat:Int)=39)=decide (c=39):=λc=>lU (k:=39) bu;have e34: ∀c:UInt8,decide ((c.toNat:Int)=34)=decide (c=34):=λc=>lU (k:=34) bu;have w1:IntKind.wrap .i64 ((n:Int)+1)=((n+1:Nat):Int):=by rw[gA bu bu];omega
 have hr:=nO (fx:=fx) (s:=s) (p:=dX) (n:=n);obtain⟨c,hc⟩: ∃c,c=(s[n]?).getD 0:=⟨_,rfl⟩;rw[<-hc];have hnum: ∀{k1 k2:CV->Mu->Option St},callK (some (zJ (scM b s fx out kept) (fL fx s n))) (λv μ=>opt (b9 v) λxs=>opt (bC xs) λq=>jo q.1 λn1 n2 s3=>opt (bC q.2) λq2=>opt (bI .i64 q2.1) λn4=>opt (bS q2.2) λu=>some (ff n4 n1 n2 s3 μ)) (λv μ=>some (dB v μ))=some (stK b s fx out kept (noK (fL fx s n))):=by
  intro k1 k2;rw[<-Pi];cases fL fx s n with|ok q=>simp only[zJ,bU,iK];rfl|error e=>rfl
 have hquo:callK (some (FL b s fx out kept (ig s n))) (λv μ=>opt (b9 v) λxs=>opt (bC xs) λq=>jo q.1 λn1 n2 s3=>opt (bC q.2) λq2=>opt (bI .i64 q2.1) λn4=>opt (bS q2.2) λu=>some (ff n4 n1 n2 s3 μ)) (λv μ=>some (dB v μ))=some (stK b s fx out kept (ig s n)):=by
  cases ig s n with|ok q=>simp only[FL,bU,iK];rfl|error e=>rfl
 refine cm ?_;rw[WG,w1,mi h bu bu];simp only[bU];rw[DX];simp only[bU];unfold gi;cases hlet:dx c with
 |true=>
  rw[bY,u6 h bu (λc=>aar) bu];simp only[bU,cX];by_cases h31:31<(eT fx dX s n).length
  ·have:decide ((31:Int)<((eT fx dX s n).length:Int))=true:=cr;rw[this,bY,oW,d5,bK h31];rfl
  ·have:decide ((31:Int)<((eT fx dX s n).length:Int))=false:=cr;rw[this,bW,Jy bu,bL,dw,bA,bE h31];simp only[stK,eU]
 |false=>
  rw[bW,qG];simp only[bU,eD,dG,e46,e39,e34];have hdot: ∀(o:Option St),(decide (c=46)&&bR (atC fx s (n+1)))=false->bR c=false->
   cond (decide (c = 46)) (callK ((ev E).call 193 [LV.cv (CV.ref b.length 0 0), bv (n : Int)] (scM b s fx out kept)) (λv103 μ104 =>
    opt (b9 v103) λxs107=>
    opt (bC xs107) λq108=>
    opt (cf q108.1) λs109=>
    opt (bC q108.2) λq110=>
    opt (bI .i64 q110.1) λn111=>
    opt (bC q110.2) λq112=>
    opt (ce q112.1) λb113=>
    opt (bS q112.2) λu114=>
    cond (!b113) (
    callK ((ev E).call 191 [bv (7 : Int)] μ104) (λv115 μ116 =>
    opt (b9 v115) λxs119=>
    opt (bS xs119) λu120=>
    opt (nR (ev E) s109 n111 x y z μ116) (kS (ev E) iO [.block 0,.seq (cN 169 63)] [(4,0),(5,0)])) (λv118 μ117=>
    some (dB v118 μ117))) (
    opt (nR (ev E) s109 n111 x y z μ104) (kS (ev E) iO [.block 0,.seq (cN 169 63)] [(4,0),(5,0)]))) (λv106 μ105=>
    some (dB v106 μ105))) o=if c=46 then some (stK b s fx out kept (if(dT fx s n).2.2 then .ok (gz (dT fx s n).1,(dT fx s n).2.1,[])else .error 7))else o:=by
   intro o h1 h2;by_cases h46:c=46
   ·have:decide (c=46)=true:=by simp[h46]
    rw[this,bY,TN h hs bu,bK h46];simp only[bU];cases hd:(dT fx s n).2.2 with|true=>rw[db,bW,U1];simp only[cX,stK,eU]|false=>rw[dF,bY,oW,d5];rfl
   ·have:decide (c=46)=false:=by simp[h46]
    rw[this,bW,bE h46]
  have htail: ∀(o1:Option St),o1=some (stK b s fx out kept (ig s n))->
   cond (decide (c=39)) o1 (cond (decide (c=34)) o1 (opt (uE (ev E) b.length 0 (n:Int) x y z (scM b s fx out kept)) (kS (ev E) iO [] [(4,0),(5,0)])))=
    some (stK b s fx out kept (if c=39\/c=34 then ig s n else noK (iE fx s n))):=by
   intro o1 ho;rw[U2 hs bu,ho];by_cases h1:c=39
   ·simp[h1]
   ·by_cases h2:c=34
    ·simp[h2]
    ·simp[h1,h2]
  cases hdig:bR c with
  |true=>rw[bY,TM h hs bu];simp only[Bool.true_or,cX];exact hnum (k1:=λ_ _=>none) (k2:=λ_ _=>none)|false=>
   rw[bW];by_cases h46:c=46
   ·have h1:decide (c=46)=true:=by simp[h46]
    rw[h1,bY,qG];simp only[bU,om,lI];cases hd2:bR (atC fx s (n+1))with|true=>rw[bY,TM h hs bu];simp only[cX];exact hnum (k1:=λ_ _=>none) (k2:=λ_ _=>none)|false=>have:=hdot none (by rw[hd2];simp) hdig;rw[h1,bY]at this;simp only[bU,eD,dG];rw[this,bK h46,bK h46]
   ·have h1:decide (c=46)=false:=by simp[h46]
    rw[h1,bW,bW,aay hs hk hn];simp only[om,vH,eD,dG];rw[bE h46];exact htail _ hquo
def TL (hs:s.length<=200000)(hk:kept.length<=200000)(ho:out.length<=200000){n:Nat}(hn:n<s.length):
 (ev E).call 169 [LV.cv (CV.ref b.length 0 0),bv (n:Int)] (scM b s fx out kept)=some (FL b s fx out kept (lD fx s out n)):=by
 have h:=ql (b:=b) (s:=s) (fx:=fx) (out:=out) (kept:=kept);have hfin: ∀{x y:Int} {z:List UInt8},(opt (xR (ev E) b.length 0 (n:Int) (((s[n]?).getD 0).toNat:Int) x y z (scM b s fx out kept)) (kB (ev E) 169 iO []))=some (FL b s fx out kept (gi fx s n ((s[n]?).getD 0))):=by
  intro x y z;rw[Xp hs hk hn,bA];cases gi fx s n ((s[n]?).getD 0)with|ok q=>exact Me _ _ _ _ _ _|error e=>exact Mf _ _ _
 refine b8 ?_;have hg:s[n]? =some ((s[n]?).getD 0):=by rw[dA hn,gB]
 rw[acq,h,jW,fX,bA,dw,bA,qW,hg,bA,aaw ho];simp only[bU];unfold lD;cases hm:CH fx out with
 |false=>rw[bW,hfin];rfl|true=>
  rw[bY,qG];simp only[bU];cases hd:bR ((s[n]?).getD 0)with
  |false=>rw[bW,hfin];rfl|true=>
   rw[bY,aax hs hk bu];by_cases hh:rE fx s n
   ·simp only[hh,cX,lI,g0];cases wV fx s n with|ok q=>simp only[Xb,bU,iK];rfl|error e=>rfl
   ·simp only[hh,dG,lI,oo,eD];simp only[bU,iK];exact hfin
end
section
variable {b:Mu}{s:List UInt8}{fx:Bool}{out:List Tok}{kept:List Nat}{μ:Mu}
def ZP {n:Nat}{c:UInt8}(h:s[n]? =some c)(hc:c≠32):skipN fx s n=n:=by
 unfold skipN;split
 ·have hn:n<s.length:=by
   rcases jy n s.length with h1|h1
   ·exact h1
   ·rw[fq h1]at h;cases h
  have hd:s.drop n=s[n]::s.drop (n+1):=iM hn;rw[dA hn]at h;injection h with h;rw[hd,cH,h,bE hc];rfl
 ·rfl
def t7 {n:Nat}{c:UInt8}(h:s[n]? =some c):n<s.length:=by
 rcases jy n s.length with h1|h1
 ·exact h1
 ·rw[fq h1]at h;cases h
def yX {n:Nat}{c:UInt8}(h:s[n]? =some c)(hc:c≠32):atC fx s n=c/\atE fx s n=n+1:=by have hn:=t7 h;unfold atC atE;rw[ZP h hc,h];exact⟨rfl,by rw[bK hn]⟩
def uO {n:Nat}:n<=atE fx s n:=by have:=K4 (fx:=fx) (s:=s) (n:=n);unfold atE;split<;>omega
def sc {p:UInt8->Bool}{n:Nat}:n<=runE fx p s n:=by unfold runE;omega
def Pf {p:UInt8->Bool}{n:Nat}{c:UInt8}(h:s[n]? =some c)(hc:c≠32)(h0:c≠0)(hp:p c=true):n+1<=runE fx p s n:=by obtain⟨h1,h2⟩:=yX (fx:=fx) h hc;have:=(Hh (fx:=fx) (s:=s) (p:=p) (n:=n) (by rw[h1,hp];simp[h0])).2;rw[this,h2];exact sc
def Px (s:List UInt8)(n:Nat):Except Int (Tok×Nat×List Nat)->Prop
 | .ok q=>n<q.2.1/\q.2.1<=s.length/\q.2.2.length+n<=q.2.1| .error _=>True
def Wh {n:Nat}(hn:n<=s.length):n<=(cQ fx s n).2.2.1/\(cQ fx s n).2.2.1<=s.length:=by
 unfold cQ;have hle:=ls (fx:=fx) hn;have hle2:=ls (fx:=fx) hle;have hst:expStart fx s n<=s.length:=by unfold expStart;split<;>assumption
 have hst2:n<=expStart fx s n:=by have h1:=uO (fx:=fx) (s:=s) (n:=n);have h2:=uO (fx:=fx) (s:=s) (n:=atE fx s n);unfold expStart;split<;>omega
 split
 ·have h1:=sc (fx:=fx) (s:=s) (p:=bR) (n:=expStart fx s n);have h2:=mY (fx:=fx) (p:=bR) hst;simp only;omega
 ·simp only;omega
def Xk {whole part digits:List UInt8}{letter:UInt8}{ok:Bool}{e:Nat}{q:Tok×Nat}(h:fS whole part digits letter ok e= .ok q):q.2=e:=by
 unfold fS at h;split at h
 ·cases h
 ·injection h with h;rw[<-h]
def Na {n:Nat}{c:UInt8}(h:s[n]? =some c)(hc:bR c=true\/c=46):Px s n (noK (fL fx s n)):=by
 have hn:=t7 h;have h32:c≠32:=by
  rintro rfl;rcases hc with h1|h1
  ·exact absurd h1 co
  ·exact absurd h1 co
 have h0:c≠0:=by
  rintro rfl;rcases hc with h1|h1
  ·exact absurd h1 co
  ·exact absurd h1 co
 obtain⟨ha,hb⟩:=yX (fx:=fx) h h32;have hle:=mY (fx:=fx) (p:=bR) (Nat.le_of_lt hn);have hle2:=ls (fx:=fx) hle;have hle3:=mY (fx:=fx) (p:=bR) hle2;have hend:numEnd fx s n<=s.length:=by unfold numEnd;split<;>assumption
 have hgt:n<numEnd fx s n:=by
  have g1:=sc (fx:=fx) (p:=bR) (s:=s) (n:=n);have g2:=uO (fx:=fx) (s:=s) (n:=runE fx bR s n);have g3:=sc (fx:=fx) (p:=bR) (s:=s) (n:=atE fx s (runE fx bR s n));rcases hc with hd|hd
  ·have:=Pf (fx:=fx) h h32 h0 hd;unfold numEnd;split<;>omega
  ·obtain⟨e1,e2⟩:=xm (fx:=fx) (s:=s) (p:=bR) (n:=n) (by rw[ha,hd];decide);have hdot:ge fx s n=true:=by unfold ge eM;rw[e2,ha,e1,hd];simp
   unfold numEnd;rw[bK hdot,e2,hb];rw[e2,hb]at g3;omega
 have hx:=Wh (fx:=fx) (s:=s) hend;unfold fL;simp only;split
 ·cases fH (eM fx s n)with|ok t=>exact⟨hgt,hend,cr⟩|error e=>trivial
 ·cases hr:fS (eM fx s n) (ie fx s n) (cQ fx s (numEnd fx s n)).2.1 (cQ fx s (numEnd fx s n)).1 (cQ fx s (numEnd fx s n)).2.2.2 (if(cQ fx s (numEnd fx s n)).2.2.2 then(cQ fx s (numEnd fx s n)).2.2.1 else numEnd fx s n)with
  |error e=>trivial|ok q=>
   have:=Xk hr;refine⟨?_,?_,?_⟩
   ·show n<q.2;rw[this];split<;>omega
   ·show q.2<=s.length;rw[this];split<;>omega
   ·show 0+n<=q.2;rw[this];split<;>omega
def Nj {n:Nat}(hn:n<s.length):Px s n (ig s n):=by
 unfold ig jn;cases hq:eS ((s[n]?).getD 0) (s.drop (n+1))with
 |none=>trivial|some x=>
  obtain⟨t,k⟩:=x;have:=uc _ _ (cw _) t k hq;rw[gZ]at this;simp only;split
  ·rename_i q heq;split at heq
   ·cases heq
   ·injection heq with heq;subst heq;refine⟨?_,?_,?_⟩
    ·show n<n+1+k;omega
    ·show n+1+k<=s.length;omega
    ·show (List.range' n (n+1+k-n)).length+n<=n+1+k;simp;omega
  ·trivial
def ZF {n:Nat}{c:UInt8}(h:s[n]? =some c)(hc:c≠32):Px s n (noK (iE fx s n)):=by
 have hn:=t7 h;obtain⟨ha,hb⟩:=yX (fx:=fx) h hc;have g1:=uO (fx:=fx) (s:=s) (n:=n+1);have g2:=ls (fx:=fx) (s:=s) (n:=n+1) hn;unfold iE;simp only[hb];split
 ·exact⟨by show n<atE fx s (n+1);omega,g2,by show 0+n<=atE fx s (n+1);omega⟩
 ·split
  ·exact⟨by show n<atE fx s (n+1);omega,g2,by show 0+n<=atE fx s (n+1);omega⟩
  ·split
   ·exact⟨by show n<n+1;omega,hn,by show 0+n<=n+1;omega⟩
   ·split
    ·exact⟨by show n<n+1;omega,hn,by show 0+n<=n+1;omega⟩
    ·trivial
def EE {n:Nat}{c:UInt8}(h:s[n]? =some c)(hc:c≠32):Px s n (lD fx s out n):=by
 have hn:=t7 h;obtain⟨ha,hb⟩:=yX (fx:=fx) h hc;unfold lD;rw[h,gB];split
 ·rename_i hh;simp only[cM,dn]at hh;obtain⟨_,hN⟩:=hh;unfold wV;split
  ·trivial
  ·rename_i hlen;have g1:=sc (fx:=fx) (p:=bR) (s:=s) (n:=n);have g2:=uO (fx:=fx) (s:=s) (n:=runE fx bR s n);have g3:runE fx bR s n<=holE fx s n:=g2;have g4:=hN.2.1;refine⟨?_,?_,?_⟩
   ·show n<holE fx s n+(j9 fx s n).toNat;omega
   ·show holE fx s n+(j9 fx s n).toNat<=s.length;omega
   ·show (List.range' (holE fx s n) (j9 fx s n).toNat).length+n<=holE fx s n+(j9 fx s n).toNat;simp;omega
 ·unfold gi;split
  ·rename_i hl;have h0:c≠0:=by rintro rfl;exact absurd hl co
   have hp:dX c=true:=by unfold dX;rw[hl];rfl
   have g1:=Pf (fx:=fx) h hc h0 hp;have g2:=mY (fx:=fx) (p:=dX) (Nat.le_of_lt hn);split
   ·trivial
   ·exact⟨by show n<runE fx dX s n;omega,g2,by show 0+n<=runE fx dX s n;omega⟩
  ·split
   ·rename_i hd;refine Na h ?_;rw[jw,cM,dn]at hd;rcases hd with hd|hd
    ·exact Or.inl hd
    ·exact Or.inr hd.1
   ·split
    ·rename_i h46;subst h46;split
     ·have e:dT fx s n=(ia fx s n,dotEnd fx s n,kg fx s n):=by unfold dT;rw[bK ha]
      rw[e];have g1:=sc (fx:=fx) (p:=dx) (s:=s) (n:=atE fx s n);have g2:=uO (fx:=fx) (s:=s) (n:=runE fx dx s (atE fx s n));have g3:=ls (fx:=fx) (Nat.le_of_lt hn);have g4:=mY (fx:=fx) (p:=dx) g3;have g5:=ls (fx:=fx) g4;have g6:runE fx dx s (atE fx s n)<=dotEnd fx s n:=g2;rw[hb]at g1 g6;exact⟨by show n<dotEnd fx s n;omega,g5,by show 0+n<=dotEnd fx s n;omega⟩
     ·trivial
    ·split
     ·exact Nj hn
     ·exact ZF h hc
def gL (fx:Bool)(s:List UInt8):Nat->Nat->List Tok->List Nat->Option (Nat×Int)×List Tok×List Nat
 |0,_,out,kept=>(none,out,kept)|k+1,n,out,kept=>
  if s.length<=n+cH (s.drop n)then(none,out,kept)
  else match lD fx s out (n+cH (s.drop n))with
   | .error e=>(some (n+cH (s.drop n),e),out,kept)| .ok q=>gL fx s k q.2.1 (out++[q.1]) (kept++q.2.2)
def Wd (b:Mu)(s:List UInt8)(fx:Bool):Option (Nat×Int)×List Tok×List Nat->St
 |(none,out,kept)=>yN 0 0 (scM b s fx out kept)|(some (n,e),out,kept)=>yO (lV e) (n:Int) 0 (scM b s fx out kept)
def Wu {l i:Nat}{r:List LV}(h:Sc μ l i s fx r)(hs:s.length<=1000000): ∀(k n:Nat),n+k=s.length->Fd (ev E) l i (n:Int) 0 μ=some (ry l i ((n+cH (s.drop n):Nat):Int) 0 μ):=by
 intro k
 induction k with
 |zero=>intro n hk;refine dy ?_;rw[G5,h];simp only[bA,jW,fX,dw];have:List.drop n s=[]:=gX bu;have h1:decide ((n:Int)<(s.length:Int))=false:=cr;rw[h1,this];simp[cH]|succ k ih=>
  intro n hk;refine dy ?_;rw[G5,h];simp only[bA,jW,fX,dw];have h1:decide ((n:Int)<(s.length:Int))=true:=cr;have hn:n<s.length:=bu;rw[h1,qW,dA hn,bA];have hd:List.drop n s=s[n]::List.drop (n+1) s:=iM hn;have e:IntKind.wrap .i64 ((n:Int)+1)=((n+1:Nat):Int):=by rw[gA bu bu];omega
  have e32: ∀c:UInt8,decide ((c.toNat:Int)=32)=decide (c=32):=λc=>lU (k:=32) bu;rw[e,ih (n+1) bu,e32,hd,cH];by_cases hc:s[n]=32
  ·simp only[hc,g0,bY,cX];congr 2;omega
  ·simp only[hc,oo,bW,bY,dG];rfl
def PT {n:Nat}(h:n+cH (s.drop n)<s.length): ∃c,s[n+cH (s.drop n)]? =some c/\c≠32:=by refine⟨s[n+cH (s.drop n)],dA h,?_⟩;have hd:=iM h;refine p7 (s.drop n) _ (s.drop (n+cH (s.drop n)+1)) ?_;rw[gM];exact hd
def Zb (hs:s.length<=200000): ∀(k n:Nat) (out:List Tok) (kept:List Nat),s.length<n+k->n<=s.length->out.length<=n->kept.length<=n->
 Ix (ev E) b.length 0 (n:Int) 0 (scM b s fx out kept)=some (Wd b s fx (gL fx s k n out kept)):=by
 intro k
 induction k with
 |zero=>intro n out kept hk hn ho hq;omega|succ k ih=>
  intro n out kept hk hn ho hq;have h:=ql (b:=b) (s:=s) (fx:=fx) (out:=out) (kept:=kept);have hb:=tP (s.drop n);rw[gZ]at hb;refine dy ?_;rw[W6,Wu h bu (s.length-n) n bu,bA,KB,h,jW,fX,bA,dw,bA];unfold gL;by_cases hm:s.length<=n+cH (s.drop n)
  ·have:decide ((s.length:Int)<=((n+cH (s.drop n):Nat):Int))=true:=cr;rw[this,bY,bK hm];rfl
  ·have:decide ((s.length:Int)<=((n+cH (s.drop n):Nat):Int))=false:=cr;rw[this,bW,bE hm];obtain⟨c,hc1,hc2⟩:=PT (s:=s) (n:=n) bu;have hf:=EE (fx:=fx) (out:=out) hc1 hc2;obtain⟨m,hmd⟩: ∃m,m=n+cH (s.drop n):=⟨_,rfl⟩;rw[<-hmd]at hm hf |-;cases ht:lD fx s out m with
   |error e=>
    have hG:Ih (ev E) b.length 0 (m:Int) 0 (scM b s fx out kept)=some (yd (lV e) (m:Int) 0 (scM b s fx out kept)):=by refine cm ?_;rw[JO,TL hs bu bu bu,ht];rfl
    rw[hG,bA,L8];rfl
   |ok q=>
    rw[ht]at hf;obtain⟨f1,f2,f3⟩:=hf;have hG:Ih (ev E) b.length 0 (m:Int) 0 (scM b s fx out kept)=some (yc b.length 0 (q.2.1:Int) 0 (scM b s fx (out++[q.1]) (kept++q.2.2))):=by
     refine cm ?_;rw[JO,TL hs bu bu bu,ht];simp only[FL,bU,iK];unfold scM;rw[vw];unfold scO;rw[acZ,bA,UJ,bA];have ha:[CV.agg [bD q.1.kind,bD q.1.type,CV.str q.1.text]]=cj [q.1]:=rfl;have hc:CV.agg [bD q.1.kind,bD q.1.type,CV.str q.1.text]=q.1.cv:=rfl;rw[ha,PO cr,cL];have hbl:dl (b.length+1) (cj out++cj [q.1])=true:=by
      have:cj out++cj [q.1]=cj (out++[q.1]):=by simp[cj]
      rw[this];exact ul _
     rw[hbl,cL,vx,vw,abz,bA,vx];have e2:cj [q.1]=[q.1.cv]:=rfl;rw[e2,abp]
    rw[hG,bA,L7,ih q.2.1 _ _ bu f2 cr cr]
def dM (b:Mu)(x:Lam):dq (b++[x])=some (b,x):=by simp[dq]
def Vo {e:Int}:du E.P 25 (.cells [bv (0:Int)]) 0 (bv e)=some (.cells [bv e]):=bx
def KW {e:Int}:cD E.P 25 (bQ [Ob.cells [bv e]] 0) 0=some (bv e):=bx
def fE:Option (Nat×Int)->Nat×Int
 |none=>(0,0)|some q=>q
def aat (hs:s.length<=200000){r:Option (Nat×Int)×List Tok×List Nat}(hr:gL fx s (s.length+1) 0 [] []=r):
 (ev E).call 152 [LV.cv (CV.ref b.length 0 0)] (scM b s fx [] [])=some (.ret (.ltup [bv ((fE r.1).1:Int),bv (fE r.1).2]) (scM b s fx r.2.1 r.2.2)):=by
 refine b8 ?_;have hl:=Zb (b:=b) (fx:=fx) hs (s.length+1) 0 [] [] bu bu bG bG;have e0:((0:Nat):Int)=0:=rfl;rw[hr,e0]at hl;rw[aci,hl,bA];obtain⟨x,o,q⟩:=r;cases x with
 |none=>simp only[Wd];have hd:(ev E).dcall 168 none [LV.cv (CV.ref (scM b s fx o q).length 0 0)] (scM b s fx o q++[[Ob.cells [bv 0]]])=some (scM b s fx o q++[[Ob.cells [bv 0]]]):=sN (by rw[Zh]);rw[MY,hd,bA,dM,bA];simp only[KW,bA,fE];rfl|some w=>
  obtain⟨n,e⟩:=w;simp only[Wd];have hd:(ev E).dcall 168 (some (lV e)) [LV.cv (CV.ref (scM b s fx o q).length 0 0)] (scM b s fx o q++[[Ob.cells [bv 0]]])=some (scM b s fx o q++[[Ob.cells [bv e]]]):=by refine sN ?_;unfold lV;rw[Zi,vw,Vo,bA,vx]
  rw[MZ,hd,bA,dM,bA];simp only[KW,bA,fE];rfl
def Ay (s:List UInt8):Bool:= !(s.any λb=>decide (b.toNat<32)||decide (126<b.toNat))
def jI (s:List UInt8):Int:=if 1320<s.length then 8 else if Ay s then 0 else 3
def Jw {g:FuncId}{p:UInt8->Bool}(hg:qU g=some p):(ev E).call 131 [LV.str s,LV.cv (CV.clo g [])] μ=some (.ret (LV.bool (s.any p)) μ):=by refine gy (g:=ly qU) bx ?_;simp only[ly,dW,bA,cT,dw,hg]
def aau:(ev E).call 167 [LV.str s] μ=some (.ret (LV.bool (Ay s)) μ):=by refine b8 ?_;rw[acp,Jw (g:=186) rfl];simp only[bU];rfl
def aas:(ev E).call 151 [LV.str s] μ=some (.ret (bv (jI s)) μ):=by
 refine b8 ?_;rw[ach,aau];simp only[bU];unfold jI;by_cases h:1320<s.length
 ·have:decide ((1320:Int)<(s.length:Int))=true:=cr;rw[this,bK h];rfl
 ·have:decide ((1320:Int)<(s.length:Int))=false:=cr;rw[this,bE h];cases Ay s<;>rfl
structure Scan where
 toks:List Tok
 kept:List Nat
 n:Nat
 e:Int
def dJ (fx:Bool)(s:List UInt8):Scan:=
 if jI s=0 then
  let r:=gL fx s (s.length+1) 0 [] []
  if(fE r.1).2=0 then(if 300<r.2.1.length then⟨r.2.1,r.2.2,0,8⟩else⟨r.2.1,r.2.2,r.2.1.length,0⟩)else⟨r.2.1,r.2.2,(fE r.1).1,(fE r.1).2⟩
 else⟨[],[],0,jI s⟩
def rN (fx:Bool)(s:List UInt8):List CV:=if jI s=0 then [CV.str s,CV.bool fx,CV.sl (cj (dJ fx s).toks),CV.sl (dE (dJ fx s).kept)]else [CV.str s,CV.bool fx,CV.sl [],CV.sl []]
def aa3 {α:Type}{k:Lam->Option α}:kE [(0,[0,0,1,1])] [scO s fx out kept] k=k [.cells [LV.str s,LV.bool fx,.osl (cj out),.osl (dE kept)]]:=by have h1:=UJ (out:=out);have h2:=UI (kept:=kept);unfold scO;simp only[kE,bQ,eu,jK,Dz,h1,h2,bA,Gi]
def Z6 {n:Nat}:below n (CV.view [CV.str s,CV.bool fx,CV.sl (cj out),CV.sl (dE kept)])=true:=by simp only[below,dl];rw[ul,uk]
def TK (hs:s.length<=200000):(ev E).call 127 [LV.str s,LV.bool fx] μ=some (.ret (.ltup [LV.cv (CV.view (rN fx s)),bv ((dJ fx s).n:Int),bv (dJ fx s).e]) μ):=by
 refine b8 ?_;rw[ab7,aas];simp only[bU];by_cases ht:jI s=0
 ·have:decide (jI s=0)=true:=by simp[ht]
  rw[this,db,bW];obtain⟨r,hr⟩: ∃r,gL fx s (s.length+1) 0 [] []=r:=⟨_,rfl⟩;have hsc:dJ fx s=if(fE r.1).2=0 then(if 300<r.2.1.length then⟨r.2.1,r.2.2,0,8⟩else⟨r.2.1,r.2.2,r.2.1.length,0⟩)else⟨r.2.1,r.2.2,(fE r.1).1,(fE r.1).2⟩:=by unfold dJ;rw[bK ht,hr]
  have htk:(dJ fx s).toks=r.2.1/\(dJ fx s).kept=r.2.2:=by
   rw[hsc];split
   ·split<;>exact⟨rfl,rfl⟩
   ·exact⟨rfl,rfl⟩
  have hC:rN fx s=[CV.str s,CV.bool fx,CV.sl (cj r.2.1),CV.sl (dE r.2.2)]:=by unfold rN;rw[bK ht,htk.1,htk.2]
  have hl:=aat (b:=μ) (fx:=fx) hs hr;have hlen:(cj r.2.1).length=r.2.1.length:=by simp[cj]
  have h5:RK (ev E) s fx μ=some (if(fE r.1).2=0/\ ¬300<r.2.1.length then xY s fx (cj r.2.1) (dE r.2.2) ((dJ fx s).n:Int) (dJ fx s).e .dead μ else tz s fx (cj r.2.1) (dE r.2.2) ((dJ fx s).n:Int) (dJ fx s).e μ):=by
   refine cm ?_;have e0:μ++[[Ob.cells [LV.str s,LV.bool fx,LV.cv (CV.v (.slice none 0 0)),LV.cv (CV.v (.slice none 0 0))]]]=scM μ s fx [] []:=rfl;rw[WC,e0,hl];simp only[bU];unfold scM;rw[dM,bA,aa3];by_cases he:(fE r.1).2=0
   ·have h6:If (ev E) ((fE r.1).1:Int) (fE r.1).2 [.cells [LV.str s,LV.bool fx,.osl (cj r.2.1),.osl (dE r.2.2)]] μ=some (x5 s fx (cj r.2.1) (dE r.2.2) μ):=by
     refine cm ?_;have:decide ((fE r.1).2=0)=true:=by simp[he]
     rw[JM,this];rfl
    rw[h6,bA,L3];rw[hsc,bK he];by_cases h3:300<r.2.1.length
    ·have h8:Ig (ev E) [.cells [LV.str s,LV.bool fx,.osl (cj r.2.1),.osl (dE r.2.2)]] μ=some (x9 s fx (cj r.2.1) (dE r.2.2) 0 8 μ):=by
      refine cm ?_;have:decide ((300:Int)<((cj r.2.1).length:Int))=true:=by rw[hlen];simp;omega
      rw[JN,this];rfl
     rw[h8,bA,L4,bK h3,bE (by simp[h3])];rfl
    ·have h8:Ig (ev E) [.cells [LV.str s,LV.bool fx,.osl (cj r.2.1),.osl (dE r.2.2)]] μ=some (ya s fx (cj r.2.1) (dE r.2.2) (r.2.1.length:Int) 0 .dead μ):=by
      refine cm ?_;have:decide ((300:Int)<((cj r.2.1).length:Int))=false:=by rw[hlen];simp;omega
      have h10:Nx (ev E) s fx (cj r.2.1) (dE r.2.2) [Ob.dead] μ=some (vZ s fx (cj r.2.1) (dE r.2.2) (r.2.1.length:Int) 0 .dead μ):=by refine cm ?_;rw[Ud,hlen]
      rw[JN,this,bW,h10,bA,Ka]
     rw[h8,bA,L5,bE h3,bK ⟨he,h3⟩]
   ·have h6:If (ev E) ((fE r.1).1:Int) (fE r.1).2 [.cells [LV.str s,LV.bool fx,.osl (cj r.2.1),.osl (dE r.2.2)]] μ=some (xZ s fx (cj r.2.1) (dE r.2.2) ((fE r.1).1:Int) (fE r.1).2 μ):=by
     refine cm ?_;have:decide ((fE r.1).2=0)=false:=by simp[he]
     rw[JM,this];rfl
    rw[h6,bA,L1,hsc,bE he,bE (by simp[he])]
  rw[h5,bA];have:fj μ.length (LV.ltup [LV.cv (CV.view [CV.str s,CV.bool fx,CV.sl (cj r.2.1),CV.sl (dE r.2.2)]),bv ((dJ fx s).n:Int),bv (dJ fx s).e])=true:=by simp only[fj,A5,qC,Z6];rfl
  split
  ·rw[L0,this,cL,hC]
  ·rw[LZ,this,cL,hC]
 ·have:decide (jI s=0)=false:=by simp[ht]
  have hC:rN fx s=[CV.str s,CV.bool fx,CV.sl [],CV.sl []]:=by unfold rN;rw[bE ht]
  have hsc:dJ fx s=⟨[],[],0,jI s⟩:=by unfold dJ;rw[bE ht]
  rw[this,dF,bY,hC,hsc];rfl
def dZ (fx:Bool)(s:List UInt8):List Tok:=if(dJ fx s).e=0 then(dJ fx s).toks else []
def FU (h:(dJ fx s).e=0):jI s=0/\(dJ fx s).n=(dJ fx s).toks.length/\rN fx s=[CV.str s,CV.bool fx,CV.sl (cj (dJ fx s).toks),CV.sl (dE (dJ fx s).kept)]:=by
 by_cases ht:jI s=0
 ·refine⟨ht,?_,by unfold rN;rw[bK ht]⟩;unfold dJ at h |-;rw[bK ht]at h |-;simp only at h |-;by_cases he:(fE (gL fx s (s.length+1) 0 [] []).1).2=0
  ·rw[bK he]at h |-;by_cases h3:300<(gL fx s (s.length+1) 0 [] []).2.1.length
   ·rw[bK h3]at h;exact absurd h bG
   ·rw[bE h3]
  ·rw[bE he]at h;exact absurd h he
 ·unfold dJ at h;rw[bE ht]at h;exact absurd h ht
theorem DQ {l:List CV}:jk (LV.cv (CV.view l))=some false:=rfl
theorem GM {l:List CV}:f8 (LV.cv (jf (CV.view l)))=some l:=rfl
theorem nH {t:List UInt8}:cf (LV.cv (CV.str t))=some t:=rfl
theorem GK {t:Bool}:ce (LV.cv (CV.bool t))=some t:=rfl
def abX (hs:s.length<=200000):(ev E).call 85 [LV.str s,LV.bool fx] μ=some (.ret (.ltup [if(dJ fx s).e=0 then LV.cv (CV.sl (cj (dJ fx s).toks))else zE,bv ((dJ fx s).n:Int),bv (dJ fx s).e]) μ):=by
 refine b8 ?_;rw[aeo,TK hs];simp only[bU,mL];by_cases he:(dJ fx s).e=0
 ·have h1:decide ((dJ fx s).e=0)=true:=by simp[he]
  obtain⟨_,_,hC⟩:=FU he;have hG:XN (ev E) (CV.view (rN fx s)) ((dJ fx s).n:Int) μ=some (Ch (cj (dJ fx s).toks) ((dJ fx s).n:Int) 0 μ):=by refine cm ?_;rw[Zw,DQ,bA,dF,cL,GM,bA,hC];simp only[bU,nH,GK]
  rw[h1,db,bW,hG,bA,Q0,he];simp
 ·have h1:decide ((dJ fx s).e=0)=false:=by simp[he]
  rw[h1,dF,bY,bE he];rfl
def HT (hs:s.length<=200000):(ev E).call 51 [LV.str s] μ=some (.ret (.ltup [LV.cv (CV.sl (cj (dZ false s))),bv ((dJ false s).n:Int),bv (dJ false s).e]) μ):=by
 refine b8 ?_;rw[aec,abX hs];unfold dZ;by_cases he:(dJ false s).e=0
 ·rw[bK he,bK he];rfl
 ·rw[bE he,bE he];rfl
def Ew (s:List UInt8):Option Tok:=if(dJ false s).e=0/\(dJ false s).n=1 then(dJ false s).toks[0]? else none
def aa9:Option Tok->List LV
 |some t=>[.cv t.cv,LV.bool true]|none=>[.cv Yf.cv,LV.bool false]
def aaq (hs:s.length<=200000):(ev E).call 134 [LV.str s] μ=some (.ret (.ltup (aa9 (Ew s))) μ):=by
 refine b8 ?_;rw[acb,TK hs];simp only[bU,mL];unfold Ew;by_cases he:(dJ false s).e=0
 ·have h1:decide ((dJ false s).e=0)=true:=by simp[he]
  rw[h1,db,bW];by_cases hn:(dJ false s).n=1
  ·have h2:decide (((dJ false s).n:Int)=1)=true:=by simp[hn]
   obtain⟨_,hl,hC⟩:=FU he;rw[h2,db,bW,bK ⟨he,hn⟩];obtain⟨t,ht⟩: ∃t,(dJ false s).toks=[t]:=by rw[hn]at hl;exact Ai.1 hl.symm
   have hG:RL (ev E) (CV.view (rN false s)) 0 0 [] μ=some (yb true t.kind t.type t.text μ):=by refine cm ?_;rw[WD,DQ,bA,dF,cL,GM,bA,hC,ht];simp only[bU,nH,GK];have:dr (cj [t]) (0:Int)=some t.cv:=rfl;rw[this,bA,iK]
   rw[hG,bA,L6,ht];rfl
  ·have h2:decide (((dJ false s).n:Int)=1)=false:=cr;rw[h2,dF,bY,bE (by simp[hn])];rfl
 ·have h1:decide ((dJ false s).e=0)=false:=by simp[he]
  rw[h1,dF,bY,bE (by simp[he])];rfl
end
def RC (a:Nat)(c:UInt8):Nat:=a*10+(c.toNat-48)
def valD (acc:Nat)(l:List UInt8):Nat:=l.foldl RC acc
theorem my (acc:Nat):valD acc []=acc:=rfl
def Vm (c:UInt8)(r:List UInt8)(acc:Nat):valD acc (c::r)=valD (RC acc c) r:=by unfold valD;rw[List.foldl_cons]
def iB (c:UInt8)(r:List UInt8)(acc:Nat):valD acc (c::r)=valD (acc*10+(c.toNat-48)) r:=by rw[Vm];unfold RC;exact Eq.refl _
def iw {c:UInt8}:bR c=true↔48<=c.toNat/\c.toNat<=57:=by unfold bR;rw[cM,dn,dn]
def Lh (c:UInt8)(l:List UInt8): ∀(acc:Nat),valD acc (l++[c])=valD acc l*10+(c.toNat-48):=by
 induction l with|nil=>intro acc;rw[fb,iB,my,my]|cons d r ih=>intro acc;rw[ew,iB,iB,ih]
def nq: ∀(l:List UInt8) (acc:Nat),(∀b∈l,bR b=true)->acc*10^l.length<=valD acc l/\valD acc l<(acc+1)*10^l.length
 |[],acc,_=>by rw[my,cG,Nat.pow_zero];omega|c::r,acc,h=>by
  have hc:=iw.1 (h c lG);obtain⟨h1,h2⟩:=nq r (acc*10+(c.toNat-48)) (λb hb=>h b (gj _ hb));rw[iB];simp only[cB,Bd];have e1:acc*(10^r.length*10)=(acc*10)*10^r.length:=by rw[Be (10^r.length) 10,A9]
  have e2:(acc+1)*(10^r.length*10)=((acc+1)*10)*10^r.length:=by rw[Be (10^r.length) 10,A9]
  rw[e1,e2];refine⟨j5 (vQ _ bu) h1,tq h2 (vQ _ bu)⟩
def FY: ∀(l:List UInt8) (acc:Nat),valD acc l=acc*10^l.length+valD 0 l
 |[],acc=>by simp[my]|c::r,acc=>by rw[iB];simp only[cB,Bd];rw[iB c r 0,FY r (acc*10+(c.toNat-48)),FY r (0*10+(c.toNat-48)),pm,A8,gC,F0];congr 1;rw[Be (10^r.length) 10,A9]
def zL: ∀(l:List UInt8) (acc:Nat),(∀b∈l,bR b=true)->(acc+1)*10^l.length<=10000000000->Lib.parseUint10 acc l= .ok (valD acc l)
 |[],acc,_,_=>rfl|c::r,acc,h,hb=>by
  have hc:=iw.1 (h c lG);have hp:1<=10^r.length:=Nat.pow_pos bu;have e2:(acc+1)*10^(c::r).length=((acc+1)*10)*10^r.length:=by simp only[cB,Bd];rw[Be (10^r.length) 10,A9]
  rw[e2]at hb;have h3:(acc+1)*10<=10000000000:=j5 (Nat.le_mul_of_pos_right _ hp) hb;simp only[Lib.parseUint10,iB];rw[bK hc,bE bu,bE bu];exact zL r _ (λb hb=>h b (gj _ hb)) (j5 (vQ _ bu) hb)
def ng {l:List UInt8}(h: ∀b∈l,bR b=true)(h1:l≠[])(h2:l.length<=10):Lib.atoiAll l= .ok (valD 0 l:Nat):=by
 cases l with
 |nil=>exact absurd rfl h1|cons c r=>
  have hc:=iw.1 (h c lG);have hb:(0+1)*10^(c::r).length<=10000000000:=by have:10^(c::r).length<=10^10:=A0 bu h2;omega
  have hp:=zL (c::r) 0 h hb;have hlt:=(nq (c::r) 0 h).2;rw[Lib.atoiAll_plain c r bu bu];unfold Lib.parseMag;rw[bE bG,hp];simp only[Lib.signless];rw[bE bu]
def Dq {l:List UInt8}(h: ∀b∈l,bR b=true)(h1:l≠[])(h2:l.length<=10):Lib.atoiAll (45::l)= .ok (-(valD 0 l:Nat):Int):=by
 have hb:(0+1)*10^l.length<=10000000000:=by have:10^l.length<=10^10:=A0 bu h2;omega
 have hp:=zL l 0 h hb;have hlt:=(nq l 0 h).2;rw[Lib.atoiAll_minus];unfold Lib.parseMag;rw[bE h1,hp];simp only[Lib.signed];rw[bE bu]
def ug:List UInt8->List UInt8
 |[]=>[]|[c]=>[c]|c::d::r=>if c=48 then ug (d::r)else c::d::r
def mR (l:List UInt8):Prop:=l.length=1\/ ∃c r,l=c::r/\c≠48
def Lk {c:UInt8}{r:List UInt8}(h: ∀b∈c::r,bR b=true)(hc:c≠48):1<=valD 0 (c::r):=by have h1:=iw.1 (h c lG);have h2:=(nq r (0*10+(c.toNat-48)) (λb hb=>h b (gj _ hb))).1;have hp:1<=10^r.length:=Nat.pow_pos bu;have h3:c.toNat≠48:=λe=>hc (se (by rw[e];rfl));have h4:1<=(0*10+(c.toNat-48))*10^r.length:=Nat.one_le_iff_ne_zero.2 (Nat.mul_ne_zero bu bu);simp only[iB,my];omega
def YX {u d:Nat}(hu:1<=u)(hd:d<=9):Lib.decDigits (u*10+d)=Lib.decDigits u++[UInt8.ofNat (48+d)]:=by rw[Lib.decDigits,dif_neg bu];have e1:(u*10+d) / 10=u:=bu;have e2:(u*10+d) % 10=d:=bu;rw[e1,e2]
def G7 {c:UInt8}(h:bR c=true):UInt8.ofNat (48+(c.toNat-48))=c:=by have h1:=iw.1 h;have:48+(c.toNat-48)=c.toNat:=bu;rw[this];simp
def YY: ∀(n:Nat) (l:List UInt8),l.length=n->(∀b∈l,bR b=true)->mR l->Lib.decDigits (valD 0 l)=l:=by
 intro n
 induction n with
 |zero=>
  intro l hn _ hl;rcases hl with h|⟨c,r,rfl,_⟩
  ·omega
  ·simp at hn
 |succ n ih=>
  intro l hn hd hl;have hne:l≠[]:=by intro h;subst h;simp at hn
  have hsp:=List.dropLast_concat_getLast hne;have hc:bR (l.getLast hne)=true:=hd _ (List.getLast_mem hne);have hc':=iw.1 hc;by_cases h0:l.dropLast=[]
  ·rw[h0,fb]at hsp;rw[<-hsp];simp only[iB,my];rw[Lib.decDigits_one bu,A8,gC,G7 hc]
  ·rcases hl with h|⟨c,r,e,hne2⟩
   ·exfalso;apply h0;apply kM;rw[List.length_dropLast];omega
   ·have hdl: ∀b∈l.dropLast,bR b=true:=λb hb=>hd b (List.dropLast_subset _ hb);have hll: ∃r',l.dropLast=c::r':=by
     rw[e]at h0 |-;cases r with|nil=>simp at h0|cons d r=>exact⟨_,rfl⟩
    obtain⟨r',hr'⟩:=hll;have hp:1<=valD 0 l.dropLast:=by rw[hr']at hdl |-; exact Lk hdl hne2
    have:=ih l.dropLast (by rw[List.length_dropLast];omega) hdl (Or.inr ⟨c,r',hr',hne2⟩);rw[<-hsp,Lh,YX hp bu,this,G7 hc]
section
variable {s:List UInt8}{n:Nat}
theorem nG:atC false s n=(s[n]?).getD 0:=rfl
theorem l8:atE false s n=if n<s.length then n+1 else n:=rfl
def zR {p:UInt8->Bool}(hp:p 0=false): ∀(l:List UInt8),jp false p l 0=(l.takeWhile p,(l.takeWhile p).length)
 |[]=>rfl|c::r=>by
  have ih:=zR hp r;unfold jp;rw[ih];by_cases h0:c=0
  ·subst h0;simp[hp]
  ·have h1:(c != 0)=true:=by simp[h0]
   cases hc:p c
   ·simp[hc]
   ·simp[hc,h1];omega
def jb {p:UInt8->Bool}(hp:p 0=false):eT false p s n=(s.drop n).takeWhile p:=by unfold eT;rw[zR hp]
def jX {p:UInt8->Bool}(hp:p 0=false):runE false p s n=n+((s.drop n).takeWhile p).length:=by unfold runE;rw[zR hp]
def u3:dx 0=false:=co
def iv:bR 0=false:=co
def zg:dX 0=false:=co
def Aq (s:List UInt8)(n:Nat)(w:List UInt8):Bool:=decide (n+w.length<=s.length)&&decide (((s.drop n).take w.length).map upB=w)
def TC (w:List UInt8):Prop:= ∃v,w=46::v++[46]/\ ∀b∈v,65<=b.toNat/\b.toNat<=90
def Pn: ∀i:Fin 256,(upB (UInt8.ofNat i.val)=46->i.val=46)/\(65<=(upB (UInt8.ofNat i.val)).toNat/\(upB (UInt8.ofNat i.val)).toNat<=90->dx (UInt8.ofNat i.val)=true):=co
def Pm {c:UInt8}(h:upB c=46):c=46:=by have:=(Pn ⟨c.toNat,c.toNat_lt⟩).1 (by simpa using h);exact se this
def ZU {c:UInt8}(h:65<=(upB c).toNat/\(upB c).toNat<=90):dx c=true:=by have:=(Pn ⟨c.toNat,c.toNat_lt⟩).2 (by simpa using h);simpa using this
def rh {p:UInt8->Bool}: ∀(l:List UInt8),∀c∈l.takeWhile p,p c=true
 |[],c,h=>by simp at h|d::r,c,h=>by
  rw[q6]at h;split at h
  ·rename_i hd;rcases eE.1 h with rfl|h
   ·exact hd
   ·exact rh r c h
  ·simp at h
def pW {p:UInt8->Bool}{d:UInt8}(hd:p d=false): ∀(v r:List UInt8),(∀b∈v,p b=true)->(v++d::r).takeWhile p=v
 |[],r,_=>by simp[hd]|c::v,r,h=>by have hc:=h c lG;rw[ew,q6,hc];simp only[cX];rw[pW hd v r (λb hb=>h b (gj _ hb))]
def GT {v w:List UInt8}: ∀{l:List UInt8},l.map upB=v++w-> ∃a b,l=a++b/\a.map upB=v/\b.map upB=w:=by intro l h;obtain⟨a,b,e,h1,h2⟩:=List.map_eq_append_iff.1 h;exact⟨a,b,e,h1,h2⟩
def Hx {w:List UInt8}(hw:TC w)(h:Aq s n w=true):atC false s n=46/\ia false s n=w/\atC false s (runE false dx s (atE false s n))=46/\dotEnd false s n=n+w.length:=by
 obtain⟨v,rfl,hv⟩:=hw;simp only[Aq,cM,dn]at h;obtain⟨hlen,hm⟩:=h;rw[ew]at hm hlen;simp only[cB,cC,cG]at hlen hm;obtain⟨a,b,he,ha,hb⟩:=GT (v:=[46]) (w:=v++[46]) hm;obtain⟨b1,b2,he2,hb1,hb2⟩:=GT hb;obtain⟨x,rfl⟩: ∃x,a=[x]:=by
  cases a with
  |nil=>simp at ha|cons x t=>cases t with
   |nil=>exact⟨x,rfl⟩|cons y t=>simp at ha
 obtain⟨y,rfl⟩: ∃y,b2=[y]:=by
  cases b2 with
  |nil=>simp at hb2|cons x t=>cases t with
   |nil=>exact⟨x,rfl⟩|cons y t=>simp at hb2
 have hx:x=46:=Pm (by simpa using ha);have hy:y=46:=Pm (by simpa using hb2);subst hx hy;have hb1l:b1.length=v.length:=by rw[<-hb1,pj]
 have hlet: ∀c∈b1,dx c=true:=by intro c hc;exact ZU (hv _ (by rw[<-hb1];exact List.mem_map_of_mem hc))
 have hd:s.drop n=46::(b1++46::(s.drop (n+v.length+2))):=by have h1:=Pq (v.length+(0+1)+1) (s.drop n);rw[he,he2,gM]at h1;rw[<-h1];simp only[ew,fb,eV];congr 4
 have hn:n<s.length:=bu;have h0:s[n]? =some 46:=by
  have:(s.drop n)[0]? =some 46:=by rw[hd];rfl
  rw[tr]at this;simpa using this
 have hd1:s.drop (n+1)=b1++46::(s.drop (n+v.length+2)):=by
  have:(s.drop n).drop 1=b1++46::(s.drop (n+v.length+2)):=by rw[hd];rfl
  rw[gM]at this;exact this
 have hr:(s.drop (n+1)).takeWhile dx=b1:=by rw[hd1];exact pW co _ _ hlet
 have hE:atE false s n=n+1:=by rw[l8,bK hn]
 have hR:runE false dx s (n+1)=n+1+v.length:=by rw[jX u3,hr,hb1l]
 have h46:s[n+1+v.length]? =some 46:=by
  have:(s.drop (n+1))[b1.length]? =some 46:=by rw[hd1,ju (cw _),sk];rfl
  rw[tr,hb1l]at this;exact this
 refine⟨by rw[nG,h0];rfl,?_,?_,?_⟩
 ·unfold ia;rw[hE,jb u3,hr];have:up b1=v:=by unfold up;rw[td b1 (λb hb=>uu (hlet b hb)),hb1]
  rw[this];rfl
 ·rw[hE,hR,nG,h46];rfl
 ·unfold dotEnd;rw[hE,hR,l8,bK bu];simp only[cC,cB,cG];omega
end
section
variable {μ:Mu}
def zp {n m:Nat}(h:n<m):decide ((n:Int)<(m:Int))=true:=cr
def zo {n m:Nat}(h:m<=n):decide ((n:Int)<(m:Int))=false:=cr
def gU {n:Nat}(h:n<=1000000000):IntKind.wrap .i64 ((n:Int)+1)=((n+1:Nat):Int):=by rw[gA bu bu];omega
def Qp {a b c:Int}:(ev E).call 30 [bv a,bv b,bv c] μ=some (.ret (LV.bool (decide (b<=a)&&decide (a<=c))) μ):=by
 refine b8 ?_;rw[ad8];by_cases h:a<b
 ·have h1:decide (a<b)=true:=by simp[h]
  have h2:decide (b<=a)=false:=cr;rw[h1,h2];rfl
 ·have h1:decide (a<b)=false:=cr;have h2:decide (b<=a)=true:=cr;have h3:(!decide (c<a))=decide (a<=c):=by
   by_cases h4:c<a
   ·have: ¬a<=c:=bu;simp[h4,this]
   ·have:a<=c:=bu;simp[h4,this]
  rw[h1,h2,h3];rfl
def Lg (s:List UInt8):List UInt8:=(ug s.reverse).reverse
def oK (s:List UInt8):Nat:=if s=[48]then 0 else s.length
def wY {n:Nat}:Lib.itoa (n:Int)=Lib.decDigits n:=by unfold Lib.itoa;rw[bE bu];rfl
def Ju {n:Nat}(h:1<=n):Lib.itoa (-(n:Int))=45::Lib.decDigits n:=by unfold Lib.itoa;rw[bK bu];congr 2;omega
end
def before (whole:List UInt8):List UInt8:=ug (dC whole)
def after (part:List UInt8):List UInt8:=Lg (dC part)
def nr:List (List UInt8):=fM++[nE,md]
section
variable {μ:Mu}{s:List UInt8}
def Fu: ∀i:Fin 256,((UInt8.ofNat i.val &&& 223=69)↔(UInt8.ofNat i.val=69\/UInt8.ofNat i.val=101))/\((UInt8.ofNat i.val &&& 223=68)↔(UInt8.ofNat i.val=68\/UInt8.ofNat i.val=100)):=co
def Qb (c:UInt8):((c &&& 223=69)↔(c=69\/c=101))/\((c &&& 223=68)↔(c=68\/c=100)):=by have:=Fu ⟨c.toNat,c.toNat_lt⟩;simpa using this
def Nt: ∀w∈nr,TC w:=by
 intro w hw;simp only[nr,fM,nE,md,ew,fb,eE,AZ,Bh]at hw;rcases hw with rfl|rfl|rfl|rfl|rfl|rfl|rfl|rfl|rfl|rfl|rfl|rfl|rfl
 ·exact⟨[76,84],rfl,co⟩
 ·exact⟨[76,69],rfl,co⟩
 ·exact⟨[69,81],rfl,co⟩
 ·exact⟨[78,69],rfl,co⟩
 ·exact⟨[71,69],rfl,co⟩
 ·exact⟨[71,84],rfl,co⟩
 ·exact⟨[78,79,84],rfl,co⟩
 ·exact⟨[65,78,68],rfl,co⟩
 ·exact⟨[79,82],rfl,co⟩
 ·exact⟨[69,81,86],rfl,co⟩
 ·exact⟨[78,69,81,86],rfl,co⟩
 ·exact⟨[84,82,85,69],rfl,co⟩
 ·exact⟨[70,65,76,83,69],rfl,co⟩
end
section
variable {s:List UInt8}{n:Nat}
theorem uA:nr=fM++[nE,md]:=rfl
def xz: ∀(l:List UInt8),l≠[]->ug l=dC (l.dropWhile (· == 48))
 |[],h=>absurd rfl h|[c],_=>by
  unfold ug dC;by_cases hc:c=48
  ·simp[hc]
  ·simp[hc]
 |c::d::r,_=>by
  unfold ug;by_cases hc:c=48
  ·have:(c::d::r).dropWhile (· ==(48:UInt8))=(d::r).dropWhile (· == 48):=by rw[A2,hc];rfl
   rw[bK hc,xz (d::r) bG,this]
  ·rw[bE hc,A2];simp[hc,dC]
def SD (l:List UInt8):before l=dC (gT l):=by
 unfold before gT Lib.trimLeftB;by_cases h:l=[]
 ·subst h;rfl
 ·have:dC l=l:=by unfold dC;rw[bE h]
  rw[this];exact xz l h
def Rm (l:List UInt8):(dC l).reverse=dC l.reverse:=by
 unfold dC;by_cases h:l=[]
 ·subst h;rfl
 ·rw[bE h,bE (by simpa using h)]
def VG (l:List UInt8):after l=dC (eh l):=by
 unfold after eh Lib.trimRightB Lg;by_cases h:l=[]
 ·subst h;rfl
 ·have:dC l=l:=by unfold dC;rw[bE h]
  rw[this,xz l.reverse (by simpa using h),Rm]
def P5 (l:List UInt8):oK (dC (gT l))=(gT l).length:=by
 unfold oK dC;by_cases h:gT l=[]
 ·rw[bK h,bK rfl,h];rfl
 ·rw[bE h,bE];intro h2;unfold gT Lib.trimLeftB at h2;have:=F4 (· ==(48:UInt8)) (l:=l) (by rw[h2];simp);simp only[h2]at this;simp at this
def LA (l:List UInt8):oK (dC (eh l))=(eh l).length:=by
 unfold oK dC;by_cases h:eh l=[]
 ·rw[bK h,bK rfl,h];rfl
 ·rw[bE h,bE];intro h2;unfold eh Lib.trimRightB at h2;have h3:l.reverse.dropWhile (· ==(48:UInt8))=[48]:=by have:=m6 List.reverse h2;simpa using this
  have:=F4 (· ==(48:UInt8)) (l:=l.reverse) (by rw[h3];simp);simp only[h3]at this;simp at this
def TD {x:Int}:Lib.itoa x=[48]↔x=0:=by
 constructor
 ·intro h;by_cases h0:0<=x
  ·obtain⟨m,rfl⟩: ∃m:Nat,x=(m:Int):=⟨x.toNat,bu⟩;rw[wY]at h;by_cases h9:m<10
   ·rw[Lib.decDigits_one h9]at h;injection h with h _;have:=m6 UInt8.toNat h;rw[F2 (by show 48+m<256;omega)]at this;have h48:(48:UInt8).toNat=48:=rfl;omega
   ·have hl:=m6 List.length h;rw[Lib.decDigits,dif_neg h9]at hl;have:=Lib.nDigits_pos (m / 10);rw[cC,Lib.decDigits_length]at hl;simp at hl;omega
  ·obtain⟨m,rfl⟩: ∃m:Nat,x= -(m:Int):=⟨(-x).toNat,bu⟩;rw[Ju bu]at h;injection h with h _;exact absurd h co
 ·intro h;subst h;have:(0:Int)=((0:Nat):Int):=rfl;rw[this,wY,Lib.decDigits_one bu];rfl
def qj {D:List UInt8}(hd: ∀b∈D,bR b=true):Lib.trimPrefix D [45]=D/\Lib.trimPrefix ([45]++D) [45]=D:=by
 constructor
 ·cases D with
  |nil=>rfl|cons c r=>
   have:c≠45:=by rintro rfl;exact absurd (hd _ lG) co
   have h2:(45 == c)=false:=by simpa using λh:45=c=>this h.symm
   simp[Lib.trimPrefix,Lib.hasPrefix,List.isPrefixOf,h2]
 ·simp[Lib.trimPrefix,Lib.hasPrefix,List.isPrefixOf]
end
section
variable {μ:Mu}{s:List UInt8}
end
def rB:Except Int (Tok×Nat×List Nat)->Except Int (Tok×Nat)
 | .ok q=> .ok (q.1,q.2.1)| .error e=> .error e
section
variable {s:List UInt8}{n:Nat}
def ma:rB (ig s n)=jn s n:=by unfold ig;cases jn s n<;>rfl
def BX: ∀w∈fM,w≠nE/\w≠md:=co
def zu {w:List UInt8}(h:w∈fM):w∈nr:=by rw[uA];exact ZY _ h
def zq {w:List UInt8}(h:w∈([nE,md]:List (List UInt8))):w∈nr:=by rw[uA];exact Pp _ h
def Bv {c:UInt8}(h:dX c=true):c.toNat<128:=by
 unfold dX at h;simp only[jw,dn]at h;rcases h with(h|h)|h
 ·exact uu h
 ·have:=iw.1 h;omega
 ·omega
def abv:up (eT false dX s n)=((s.drop n).takeWhile dX).map upB:=by rw[jb zg];exact td _ λb hb=>Bv (rh _ b hb)
def opC (c:UInt8)(d:Option UInt8)(n:Nat):Except Int (Tok×Nat):=
 match kl [c,d.getD 0]with
 |some w=> .ok (⟨2,0,w⟩,n+2)|none=>if d.getD 0≠0/\d6.contains [c,d.getD 0]then .ok (⟨2,0,[c,d.getD 0]⟩,n+2)
  else match kl [c]with
   |some w=> .ok (⟨2,0,w⟩,n+1)|none=>if d6.contains [c]then .ok (⟨2,0,[c]⟩,n+1)else .error 7
def U8 {a b:UInt8}{w:List UInt8}(h:kl [a,b]=some w):b=61:=by
 unfold kl at h;simp only[sf,j6]at h;split at h
 ·rename_i h1;exact h1.2
 ·split at h
  ·rename_i h1;exact h1.2
  ·split at h
   ·rename_i h1;exact h1.2
   ·split at h
    ·rename_i h1;exact h1.2
    ·simp at h
def aa6 {c:UInt8}(h:s[n]? =some c)(hc:c≠32):iE false s n=opC c s[n+1]? n:=by
 obtain⟨ha,hb⟩:=yX (fx:=false) h hc;unfold iE opC;simp only[ha,hb,nG,l8];by_cases h2:n+1<s.length
 ·rw[bK h2]<;>(cases kl [c,(s[n+1]?).getD 0]<;>rfl)
 ·rw[bE h2,fq bu];cases hsp:kl [c,(none:Option UInt8).getD 0]with|some w=>exact absurd (U8 hsp) co|none=>simp only[Gl,ne_eq,vG,false_and,dG]<;>(cases kl [c]<;>rfl)
def wK {α:Type}:Except Int α->Prop
 | .ok _=>True| .error e=>e=4\/e=7\/e=8\/e=28
def Jj {q:Except Int (Tok×Nat)}(h:wK q):wK (noK q):=by cases q<;>exact h
def Rt:wK (jn s n):=by
 unfold jn;split
 ·exact Or.inr (Or.inl rfl)
 ·split
  ·exact Or.inr (Or.inr (Or.inl rfl))
  ·trivial
def Xl {whole part digits:List UInt8}{letter:UInt8}{ok:Bool}{e:Nat}:wK (fS whole part digits letter ok e):=by
 unfold fS;split
 ·exact Or.inr (Or.inl rfl)
 ·trivial
def Ri {fx:Bool}:wK (fL fx s n):=by
 unfold fL;simp only;split
 ·unfold fH;split
  ·exact trivial
  ·rename_i e he;split at he
   ·injection he with he;subst he;exact Or.inr (Or.inr (Or.inr rfl))
   ·cases he
 ·exact Xl
def aa7 {fx:Bool}:wK (iE fx s n):=by
 unfold iE;simp only;split
 ·trivial
 ·split
  ·trivial
  ·split
   ·trivial
   ·split
    ·trivial
    ·exact Or.inr (Or.inl rfl)
def Vk {fx:Bool}{out:List Tok}:wK (lD fx s out n):=by
 unfold lD;split
 ·unfold wV;split
  ·exact Or.inr (Or.inl rfl)
  ·trivial
 ·unfold gi;split
  ·split
   ·exact Or.inl rfl
   ·trivial
  ·split
   ·exact Jj Ri
   ·split
    ·split
     ·trivial
     ·exact Or.inr (Or.inl rfl)
    ·split
     ·have:=Rt (s:=s) (n:=n);unfold ig;cases hq:jn s n with|ok q=>trivial|error e=>rw[hq]at this;exact this
     ·exact Jj aa7
end
section
variable {μ:Mu}{s:List UInt8}
def EF {out:List Tok}{n:Nat}:lD false s out n=gi false s n ((s[n]?).getD 0):=by unfold lD CH;rfl
def Hn {fx:Bool}: ∀(k n:Nat) (out:List Tok) (kept:List Nat) (m:Nat) (e:Int),(gL fx s k n out kept).1=some (m,e)->e≠0
 |0,n,out,kept,m,e,h=>by simp[gL]at h|k+1,n,out,kept,m,e,h=>by
  unfold gL at h;split at h
  ·cases h
  ·have he:=Vk (s:=s) (n:=n+cH (s.drop n)) (fx:=fx) (out:=out);cases ht:lD fx s out (n+cH (s.drop n))with
   |error x=>rw[ht]at h he;simp only[bJ,dp]at h;obtain⟨_,rfl⟩:=h;rcases he with h|h|h|h<;>rw[h]<;>decide
   |ok q=>rw[ht]at h;exact Hn k _ _ _ m e h
end
section
variable {μ:Mu}{s:List UInt8}
def Jq (p:UInt8->Bool)(s:List UInt8):Bool:=match s with|[]=>false|c::_=>p c
def QD (s:List UInt8):Bool:=decide (s.length<=31)&&Jq dx s&&s.all dX
def zn (c:UInt8):Bool:=decide (97<=c.toNat)&&decide (c.toNat<=122)
def k8 (s:List UInt8):Bool:=QD s&& !s.any zn
def KE (b:UInt8):Bool:= !((decide (97<=b.toNat)&&decide (b.toNat<=122))||(decide (65<=b.toNat)&&decide (b.toNat<=90))||(decide (48<=b.toNat)&&decide (b.toNat<=57))||decide (b.toNat=95))
def Uz:KE=λb=> !dX b:=by funext b;unfold KE dX dx bR;rfl
def Fh {p:UInt8->Bool}: ∀(l:List UInt8),(!l.any λb=> !p b)=l.all p
 |[]=>rfl|c::r=>by rw[vJ,A5,Bool.not_or,Fh r,Bool.not_not]
def Nr: ∀i:Fin 256,(upB (UInt8.ofNat i.val)=UInt8.ofNat i.val)↔zn (UInt8.ofNat i.val)=false:=co
def ZV (c:UInt8):upB c=c↔zn c=false:=by have:=Nr ⟨c.toNat,UInt8.toNat_lt c⟩;simpa using this
def nh: ∀(l:List UInt8),l.map upB=l↔l.any zn=false
 |[]=>by simp|c::r=>by rw[dQ,vJ,sf,ZV,nh r,vD]
def ab0 (hs:s.length<=200000):(ev E).call 91 [LV.str s] μ=some (.ret (LV.bool (k8 s)) μ):=by
 refine b8 ?_;rw[aes];cases s with
 |nil=>rfl|cons c r=>
  have h0:decide (c::r=[])=false:=bG;have h1:km (c::r) 0=some c:=rfl;rw[h0,dF,bY,h1,bA,DX];simp only[bU];rw[Jy (s:=c::r) bu];simp only[bU];rw[Jw (g:=137) (p:=KE) rfl];simp only[bU];unfold k8 QD;rw[show Jq dx (c::r)=dx c from rfl,Uz,Fh];have h2:decide (((c::r).length:Int)<=31)=decide ((c::r).length<=31):=by
   by_cases h:(c::r).length<=31
   ·rw[cu h];simp only[dn];omega
   ·rw[cE h];simp only[lF];omega
  rw[h2];cases hp:(c::r).all dX with
  |false=>cases decide ((c::r).length<=31)<;>cases dx c<;>cases decide (Lib.toUpperD (c::r)=c::r)<;>simp|true=>
   have hu:Lib.toUpperD (c::r)=(c::r).map upB:=td _ λb hb=>Bv (j2.1 hp b hb);have h3:decide (Lib.toUpperD (c::r)=c::r)= !(c::r).any zn:=by
    rw[hu];cases hl:(c::r).any zn with|false=>rw[cu ((nh _).2 hl)];rfl|true=>rw[cE (λe=>by rw[(nh _).1 e]at hl;cases hl)];rfl
   rw[h3];cases decide ((c::r).length<=31)<;>cases dx c<;>cases (c::r).any zn<;>simp
def KD (b:UInt8):Bool:=decide (b.toNat<48)||decide (57<b.toNat)
def Uy:KD=λb=> !bR b:=by
 funext b;unfold KD bR;rw[Bool.not_and];congr 1
 ·by_cases h:48<=b.toNat
  ·rw[cu h,cE bu];rfl
  ·rw[cE h,cu bu];rfl
 ·by_cases h:b.toNat<=57
  ·rw[cu h,cE bu];rfl
  ·rw[cE h,cu bu];rfl
def kz (t:List UInt8):Bool:=decide (t.length<=10)&&t.all bR&&Jq (λc=> !decide (c=48)||decide (t=[48])) t
def qD (k:Int)(t:List UInt8):Int:=
 if k=0 then(if kz t then(if 2147483647<valD 0 t then 28 else 0)else 3)
 else if k=1\/k=2\/k=5\/k=6 then(if Ew t=some ⟨1,k,t⟩then 0 else 3)else 15
def xn {k:Int}(hs:s.length<=200000){b:Bool}(hb:b=decide (k=1\/k=2\/k=5\/k=6))(hk:k≠0):
 (opt (so (ev E) k s b μ) (kB (ev E) 90 H90 [.block 0,.seq (cN 90 7)]))=some (.ret (bv (qD k s)) μ):=by
 subst hb;by_cases h:k=1\/k=2\/k=5\/k=6
 ·have:so (ev E) k s (decide (k=1\/k=2\/k=5\/k=6)) μ=some (l5 (qD k s) μ):=by
   refine cm ?_;rw[JY,cu h,bY,aaq hs];unfold qD;rw[bE hk,bK h];simp only[bU];cases hq:Ew s with
   |none=>rfl|some t=>
    simp only[aa9,bU,iK];obtain⟨a,b,c⟩:=t;simp only;by_cases h1:a=1
    ·by_cases h2:b=k
     ·by_cases h3:c=s
      ·subst h1;subst h2;subst h3;simp
      ·have: ¬(some (Tok.mk a b c)=some (Tok.mk 1 k s)):=λe=>h3 (by injection e with e;injection e);rw[bE this,cu h1,cu h2,cE h3];rfl
     ·have: ¬(some (Tok.mk a b c)=some (Tok.mk 1 k s)):=λe=>h2 (by injection e with e;injection e);rw[bE this,cu h1,cE h2];rfl
    ·have: ¬(some (Tok.mk a b c)=some (Tok.mk 1 k s)):=λe=>h1 (by injection e with e;injection e);rw[bE this,cE h1];rfl
  rw[this,bA,MP]
 ·have:so (ev E) k s (decide (k=1\/k=2\/k=5\/k=6)) μ=some (yF μ):=by refine cm ?_;rw[JY,cE h,bW]
  rw[this,bA,MQ];unfold qD;rw[bE hk,bE h]
def ad1 {t:List UInt8}(h1:t.length<=10)(h2:t.all bR=true)(h3:t≠[]):fu t=(valD 0 t:Nat):=by unfold fu;rw[ng (λb hb=>j2.1 h2 b hb) h3 h1]
def ZK {t:List UInt8}(h1:t.length<=10)(h2:t.all bR=true)(h3:t≠[]):
 (opt (HK (ev E) t μ) (kB (ev E) 90 H90 [.block 0,.seq (cN 90 7)]))=some (.ret (bv (if 2147483647<valD 0 t then 28 else 0)) μ):=by
 have:HK (ev E) t μ=some (wu (if 2147483647<valD 0 t then 28 else 0) μ):=by
  refine cm ?_;rw[Zy,DW bu,wE,ad1 h1 h2 h3];simp only[bU,mL];by_cases h:2147483647<valD 0 t
  ·rw[bK h,show decide ((2147483647:Int)<((valD 0 t:Nat):Int))=true by simp;omega];rfl
  ·rw[bE h,show decide ((2147483647:Int)<((valD 0 t:Nat):Int))=false by simp;omega];rfl
 rw[this,bA,Q2]
def X6 {k:Int}(hs:s.length<=200000):(ev E).call 90 [bv k,LV.str s] μ=some (.ret (bv (qD k s)) μ):=by
 refine b8 ?_;rw[aer];by_cases h0:k=0
 ·subst h0;rw[cu rfl,bY];unfold qD kz;rw[bK rfl];cases s with
  |nil=>rfl|cons c r=>
   have e0:decide (c::r=[])=false:=bG;have e1:km (c::r) 0=some c:=rfl;have e2:decide ((10:Int)<((c::r).length:Int))= !decide ((c::r).length<=10):=by
    by_cases h:(c::r).length<=10
    ·rw[cu h];exact cE bu
    ·rw[cE h];exact cu bu
   have e3:decide ((c.toNat:Int)=48)=decide (c=48):=lU (k:=48) bu;rw[e0,bW,e1,e2,Jw (g:=132) (p:=KD) rfl,Uy];simp only[bU];rw[e3];have e4:((c::r).any λb=> !bR b)= !(c::r).all bR:=by rw[<-Fh (p:=bR),Bool.not_not]
   rw[e4];show _=some (Out.ret (bv (if(decide ((c::r).length<=10)&&(c::r).all bR&&(!decide (c=48)||decide (c::r=[48])))=true then(if 2147483647<valD 0 (c::r)then 28 else 0)else 3)) μ);by_cases h1:(c::r).length<=10
   ·cases h2:(c::r).all bR with|false=>rw[cu h1];rfl|true=>rw[ZK h1 h2 bG,cu h1];cases decide (c=48)<;>cases decide (c::r=[48])<;>simp
   ·rw[cE h1];rfl
 ·rw[cE h0,bW];by_cases h1:k=1
  ·rw[cu h1,bY];exact xn hs (by rw[cu (Or.inl h1)]) h0
  ·rw[cE h1,bW];by_cases h2:k=2
   ·rw[cu h2,bY];exact xn hs (by rw[cu (Or.inr (Or.inl h2))]) h0
   ·rw[cE h2,bW];by_cases h5:k=5
    ·rw[cu h5,bY];exact xn hs (by rw[cu (Or.inr (Or.inr (Or.inl h5)))]) h0
    ·rw[cE h5,bW];exact xn hs (by simp[h1,h2,h5]) h0
def uS (t:Tok):Int:=
 if t.kind=1 then qD t.type t.text
 else if t.kind=0\/t.kind=2 then
  if t.type=0 then(if t.kind=0 then(if k8 t.text then 0 else 4)else(if fM.contains t.text||d6.contains t.text then 0 else 7))else 3
 else 15
def Xq {a b:Int}(ha:a=0\/a=2):Ip (ev E) a b s μ=some (nV (if a=0 then 0 else(if fM.contains s||d6.contains s then 0 else 7)) μ):=by
 refine cm ?_;rw[W4];rcases ha with rfl|rfl
 ·rfl
 ·rw[cu rfl,bY,X7,bL,rY,bA,DZ co];simp only[bU];rw[Qr,bL,rY,bA,DZ co];simp only[bU];rw[bE co];cases fM.contains s<;>cases d6.contains s<;>rfl
def ZL {a b:Int}(hs:s.length<=200000)(ha:a=0\/a=2):XH (ev E) a b s μ=some (wo (if a=0 then(if k8 s then 0 else 4)else(if fM.contains s||d6.contains s then 0 else 7)) μ):=by
 refine cm ?_;rw[Zp,ab0 hs];simp only[bU];rw[Xq ha,bA,ML];rcases ha with rfl|rfl
 ·rw[cu rfl,bY];cases k8 s<;>rfl
 ·rfl
def X4 {t:Tok}(hs:t.text.length<=200000):(ev E).call 55 [LV.cv t.cv] μ=some (.ret (bv (uS t)) μ):=by
 refine b8 ?_;obtain⟨a,b,s⟩:=t;show bN E (ev E) 55 [LV.cv (CV.agg [bD a,bD b,CV.str s])] μ=_;rw[aee,X6 hs];simp only[bU];unfold uS;simp only;by_cases h1:a=1
 ·rw[bK h1,cu h1,bY]
 ·rw[bE h1,cE h1,bW];have key: ∀x:Bool,x=decide (a=0\/a=2)->(opt (C7 (ev E) x a b s μ) (kB (ev E) 55 H55 [.block 0,.seq (cN 55 7)]))=
   some (.ret (bv (if a=0\/a=2 then(if b=0 then(if a=0 then(if k8 s then 0 else 4)else(if fM.contains s||d6.contains s then 0 else 7))else 3)else 15)) μ):=by
   intro x hx;subst hx;by_cases h:a=0\/a=2
   ·have:C7 (ev E) (decide (a=0\/a=2)) a b s μ=some (wn (if b=0 then(if a=0 then(if k8 s then 0 else 4)else(if fM.contains s||d6.contains s then 0 else 7))else 3) μ):=by
     refine cm ?_;rw[OY,cu h,bY,ZL hs h,bA,QU];by_cases hb:b=0
     ·rw[cu hb,bK hb];rfl
     ·rw[cE hb,bE hb];rfl
    rw[this,bA,QS,bK h]
   ·have:C7 (ev E) (decide (a=0\/a=2)) a b s μ=some (Cf μ):=by refine cm ?_;rw[OY,cE h,bW]
    rw[this,bA,QT,bE h]
  by_cases h0:a=0
  ·rw[cu h0,bY];exact key _ (by rw[cu (Or.inl h0)])
  ·rw[cE h0,bW];exact key _ (by simp[h0])
end
section
variable {μ:Mu}{s:List UInt8}
end
structure Nd where
 kind:Int
 typ:Int
 text:List UInt8
 args:List Int
 deriving DecidableEq
def Nd.cv (x:Nd):CV:= .agg [.int .i64 x.kind,.int .i64 x.typ,.str x.text,.sl (x.args.map (CV.int .i64))]
def ct (l:List Nd):List CV:=l.map Nd.cv
inductive T where
 |mk (kind typ:Int) (text:List UInt8) (args:List (Option T))
def T.kind:T->Int| .mk k _ _ _=>k
def T.typ:T->Int| .mk _ t _ _=>t
def T.text:T->List UInt8| .mk _ _ s _=>s
def T.args:T->List (Option T)| .mk _ _ _ a=>a
mutual
def T.cv:T->CV
 | .mk k t s az=> .view [.int .i64 k,.int .i64 t,.str s,.sl (bT az)]
def bT:List (Option T)->List CV
 |[]=>[]|x::r=>eQ x::bT r
def eQ:Option T->CV
 |none=> .v (.pointer none)|some t=>t.cv
end
mutual
def T.size:T->Nat
 | .mk _ _ _ az=>1+sizeA az
def sizeA:List (Option T)->Nat
 |[]=>0|x::r=>lp x+sizeA r
def lp:Option T->Nat
 |none=>0|some t=>t.size
end
def pb (b:Nat):List (Option T)->List Int
 |[]=>[]|none::r=> -1::pb b r|some t::r=>(((b+t.size:Nat):Int) -1)::pb (b+t.size) r
mutual
def T.flat (b:Nat):T->List Nd
 | .mk k t s az=>rD b az++[⟨k,t,s,pb b az⟩]
def rD (b:Nat):List (Option T)->List Nd
 |[]=>[]|x::r=>Aw b x++rD (b+lp x) r
def Aw (b:Nat):Option T->List Nd
 |none=>[]|some t=>t.flat b
end
mutual
def T.flat_len (b:Nat): ∀t:T,(t.flat b).length=t.size
 | .mk k t s az=>by rw[T.flat,T.size,cC,y7 b az];simp;omega
def y7 (b:Nat): ∀l:List (Option T),(rD b l).length=sizeA l
 |[]=>by rw[rD,sizeA];rfl|x::r=>by rw[rD,sizeA,cC,Tt b x,y7 _ r]
def Tt (b:Nat): ∀x:Option T,(Aw b x).length=lp x
 |none=>by rw[Aw,lp];rfl|some t=>by rw[Aw,lp];exact T.flat_len b t
end
def rz: ∀l:List (Option T),bT l=l.map eQ
 |[]=>by rw[bT];rfl|x::r=>by rw[bT,rz r];rfl
section
variable {μ:Mu}
def aaN:List Int:=[10,10,10,0,10,10,7,7,4,9,8,8,7,7,6,5,5,5,5,5,5,3,2,1,1]
def TW:List Int:=[0,0,1,3,2,1,1,1,1,2,2,2,2,2,2,2,2,2,2,2,2,2,2,2,2]
def Yb:List Int:=[0,0,7,3,2,1,1,1,1,2,2,2,2,2,2,2,2,2,2,2,2,2,2,2,2]
def Yc:List (List Int):=[[],[],[],[],[],[],[8],[8],[4],[10,9],[8,9],[8,9],[7,8],[7,8],[6,7],[6,6],[6,6],[6,6],[6,6],[6,6],[6,6],[3,4],[2,3],[1,2],[1,2]]
def Eg:List (List UInt8):=[[],[],[],[],[],[],[43],[45],[46,78,79,84,46],[42,42],[42],[47],[43],[45],[47,47],[46,76,84,46],[46,76,69,46],[46,69,81,46],[46,78,69,46],[46,71,69,46],[46,71,84,46],[46,65,78,68,46],[46,79,82,46],[46,69,81,86,46],[46,78,69,81,86,46]]
def lvl (k:Int):Int:=aaN.getD k.toNat 0
def oX (k:Int):Int:=TW.getD k.toNat 0
def mV (k:Int):Int:=Yb.getD k.toNat 0
def jR (k:Int):List Int:=Yc.getD k.toNat []
def cz (k:Int):List UInt8:=Eg.getD k.toNat []
def cJ (l:List Int):List CV:=l.map (CV.int .i64)
def aeJ (k:Nat):CV:=match Yc.getD k []with|[]=> .v (.slice none 0 0)|l=> .sl (cJ l)
def shp (k:Nat):List CV:=[.int .i64 (aaN.getD k 0),.int .i64 (TW.getD k 0),.int .i64 (Yb.getD k 0),aeJ k,.str (Eg.getD k [])]
def ij:List CV:=(List.range 25).flatMap shp
theorem He {β:Type}{a b c:Int}{l:List CV}{s:List UInt8}{k:Int->Int->Int->List CV->List UInt8->Option β}:fW (LV.cv (CV.agg [bD a,bD b,bD c,CV.sl l,CV.str s])) k=k a b c l s:=rfl
def TJ {a b c:Int}{d:List UInt8}:(ev E).call 119 [bv a,bv b,bv c,LV.str d] μ=some (.ret (LV.cv (CV.agg [bD a,bD (2:Int),bD (2:Int),CV.sl [bD b,bD c],CV.str d])) μ):=by refine b8 ?_;rw[ab4]
def aao {d:List UInt8}:(ev E).call 118 [LV.str d] μ=some (.ret (LV.cv (CV.agg [bD 5,bD (2:Int),bD (2:Int),CV.sl [bD 6,bD 6],CV.str d])) μ):=by refine b8 ?_;rw[ab3,TJ,bL,He]
def tY:(ev E).call 69 [] μ=some (.ret (LV.cv (CV.agg ij)) μ):=by refine b8 ?_;rw[aej];simp only[TJ,aao,bL,He];rfl
def abu: ∃d,E.P.underlying 113=some d:=by have h:(E.P.underlying 113).isSome=true:=bx;exact F3.1 h
def Z4:dz E.P 113=true:=bx
def ZO:d4 E.P 113=some 5:=bx
def ZR {cs:List CV}{off:Nat}(h:off+5<=cs.length):il E.P 113 cs off=some (.agg ((cs.drop off).take 5)):=by obtain⟨d,hd⟩:=abu;have hb:Nat.ble (off+5) cs.length=true:=vO h;simp only[il,hd,bA,jq,Z4,ZO,hb]
def tV {i:Int}{n:Nat}(h0:0<=i)(h1:i<n):fc i n=true:=by simp[fc,h0,h1]
def nQ {β:Type}{k:Int}(h0:0<=k)(h1:k<25){f:Int->Int->Int->List CV->List UInt8->Option β}:
 (bB (fc k 25) (opt (il E.P 113 ij (Int.toNat k*5)) λc=>fW (LV.cv c) f))=f (lvl k) (oX k) (mV k) (cJ (jR k)) (cz k):=by
 obtain⟨n,rfl⟩:=Int.eq_ofNat_of_zero_le h0;have hn:n<25:=bu;rw[tV h0 bu,cL,ti,ZR (by show n*5+5<=125;omega),bA]
 iterate 25 (rcases n with _|n; · rfl)
 omega
def AB {a b c:Int}:(ev E).call 72 [bv a,bv b,bv c] μ=some (.ret (LV.bool (decide (b<=a)&&decide (a<=c))) μ):=by refine b8 ?_;rw[aek];cases decide (b<=a)<;>rfl
def qV {l:List Int}{i:Nat}:dr (cJ l) (i:Int)=(l[i]?).map (CV.int .i64):=by rw[mt];simp[cJ]
def kb (k:Int)(n:Nat)(v:Int):Bool:=match(jR k)[n]? with|some a=>decide (a<=v)|none=>true
def TI {k v:Int}{n:Nat}(h0:0<=k)(h1:k<25):(ev E).call 115 [bv k,bv n,bv v] μ=some (.ret (LV.bool (kb k n v)) μ):=by
 refine b8 ?_;rw[ab2,tY,bL];have e:fJ (LV.cv (CV.agg ij))=some ij:=rfl;rw[e,bA,nQ h0 h1];unfold kb;have hl:(cJ (jR k)).length=(jR k).length:=by simp[cJ]
 by_cases h:(jR k).length<=n
 ·rw[show decide (((cJ (jR k)).length:Int)<=(n:Int))=true by simp[hl];omega,bY,fq h]
 ·have h':n<(jR k).length:=bu;rw[show decide (((cJ (jR k)).length:Int)<=(n:Int))=false by simp[hl];omega,bW,qV,dA h',d8,bA];have:bI .i64 (LV.cv (bD (jR k)[n]))=some (jR k)[n]:=rfl;rw[this,bA]
def JI (x:Int)(b:Bool):Option Int:=if b=true then some 7 else if x=14 then some 6 else if x=8 then some 4 else if x=21 then some 3 else if x=22 then some 2 else if x=23\/x=24 then some 1 else none
def Xs {a x:Int}{b:Bool}:uI (ev E) a x b μ=some (match JI x b with|some v=>jJ v μ|none=>tH a μ):=by
 refine cm ?_;rw[WY];unfold JI;cases b
 ·by_cases h1:x=14
  ·subst h1;rfl
  by_cases h2:x=8
  ·subst h2;rfl
  by_cases h3:x=21
  ·subst h3;rfl
  by_cases h4:x=22
  ·subst h4;rfl
  by_cases h5:x=23
  ·subst h5;rfl
  by_cases h6:x=24
  ·subst h6;rfl
  simp[h1,h2,h3,h4,h5,h6]
 ·rfl
def JJ (x:Int)(b:Bool):Option Int:=if b=true then some 8 else JI x (decide (x=6\/x=7\/x=12\/x=13))
def ZM {a x:Int}{b:Bool}:HJ (ev E) a x b μ=some (match JJ x b with|some v=>sB v μ|none=>wm a μ):=by
 refine cm ?_;have key: ∀b,opt (uI (ev E) a x b μ) (kS (ev E) H32 [] [(0,0)])=some (match JI x b with|some v=>sB v μ|none=>wm a μ):=by
  intro b;rw[Xs,bA];cases JI x b with|some v=>exact MG _ _ _|none=>exact MH _ _ _
 rw[Zk];simp only[key];unfold JJ;cases b
 ·by_cases h1:x=6
  ·subst h1;rfl
  by_cases h2:x=7
  ·subst h2;rfl
  by_cases h3:x=12
  ·subst h3;rfl
  by_cases h4:x=13
  ·subst h4;rfl
  simp[h1,h2,h3,h4]
 ·rfl
def kC (k:Int):Int:=if k=9 then 9 else match JJ k (decide (k=10\/k=11))with|some v=>v|none=>if 15<=k/\k<=20 then 5 else 10
def rF {k:Int}:(ev E).call 32 [bv k] μ=some (.ret (bv (kC k)) μ):=by
 refine b8 ?_;have key: ∀b,opt (HJ (ev E) k k b μ) (kB (ev E) 32 H32 [.block 0,.seq (cN 32 7)])=some (.ret (bv (match JJ k b with|some v=>v|none=>if 15<=k/\k<=20 then 5 else 10)) μ):=by
  intro b;rw[ZM,bA];cases JJ k b with|some v=>exact QH _ _ _|none=>dsimp only;rw[QI,Qp];simp only[bU];by_cases h1:15<=k<;>by_cases h2:k<=20<;>simp[h1,h2]
 rw[aea];simp only[key];unfold kC;by_cases h1:k=9
 ·subst h1;rfl
 by_cases h2:k=10
 ·subst h2;rfl
 by_cases h3:k=11
 ·subst h3;rfl
 simp[h1,h2,h3]
def Ng {k:Int}(h0:0<=k)(h1:k<6)(n:Nat)(v:Int):kb k n v=true:=by obtain⟨m,rfl⟩:=Int.eq_ofNat_of_zero_le h0;have e: ∀m:Fin 6,jR (m.val:Nat)=[]:=co;unfold kb;rw[e ⟨m,bu⟩];rfl
def Tz (k:Int):Bool:=decide (k=0)||(decide (k=1)||decide (k=2))
end
def fG (ts:List T)(a:Int):Option T:=if a= -1 then none else ts[a.toNat]?
def mkT (ts:List T)(x:Nd):T:= .mk x.kind x.typ x.text (x.args.map (fG ts))
def xd (i:Nat)(k a:Int):Bool:=(decide (0<=a)&&decide (a<=(i:Int) -1))||(decide (a= -1)&&decide (k=3))
def Ax (x:Nd):Bool:=(Tz x.kind||decide (x.text=[]))&&(decide (x.kind=0)||decide (x.typ=0))
def szT (ts:List T)(a:Int):Int:=match ts[a.toNat]? with|some t=>(t.size:Int)|none=>0
def lR (ts:List T):List Int->Int->Option Int
 |[],at_=>some at_|a::r,at_=>if a= -1 then lR ts r at_ else if a=at_-1 then lR ts r (at_-szT ts a)else none
def r9 (x:Nd):Int:=if(x.kind=1\/x.kind=2)/\k8 x.text=false then 4 else if x.kind=0 then qD x.typ x.text else 0
def oa (x:Nd):Bool:=decide (0<=x.kind)&&decide (x.kind<=24)
def zj (x:Nd):Bool:=decide (oX x.kind<=(x.args.length:Int))&&decide ((x.args.length:Int)<=mV x.kind)
def rW (i:Nat)(x:Nd):Bool:=x.args.all (xd i x.kind)
def jT (ts:List T)(i:Nat)(x:Nd):Int:=
 if oa x=false then 15 else if zj x=false then 10 else if(Ax x&&rW i x)=false then 3 else
  match lR ts x.args.reverse i with|none=>3|some _=>r9 x
def DR (t:Int):Bool:=decide (t=0)||(decide (t=1)||decide (t=2))
def ib (t:T):Bool:=
 match decide (t.kind=6\/t.kind=7),t.args with
 |true,[some u]=>decide (u.kind=0)&&DR u.typ|_,_=>decide (t.kind=0)&&DR t.typ
def u4 (x:Option T):Bool:=match x with|some t=>ib t|none=>false
def FP (k:Int)(l:List (Option T)):Bool:= !decide (k=2)&&l.any λx=>match x with|some t=>decide (t.kind=3)|none=>false
def opE (k:Int):Nat->List (Option T)->Int
 |_,[]=>0|n,x::r=>if k=4/\u4 x=false then 13 else match x with
  |some t=>if kb k n (lvl t.kind)=false then 9 else opE k (n+1) r|none=>opE k (n+1) r
def lh (t:T):Int:=if FP t.kind t.args=true then 3 else opE t.kind 0 t.args
def pf (ts:List T)(x:Nd):Int:=if jT ts ts.length x≠0 then jT ts ts.length x else lh (mkT ts x)
def nP:List Nd->List T->(Int×Int) ⊕ List T
 |[],ts=> .inr ts|x::r,ts=>if pf ts x≠0 then .inl ((ts.length:Int),pf ts x)else nP r (ts++[mkT ts x])
def jc (ts:List T)(j:Nat):Int:=match ts[j]? with|some t=>(j:Int)+1-t.size|none=>0
def Jf (e:List Nd)(ts:List T):Int×Int:=
 match e.getLast? with
 |some x=>if x.kind=3\/jc ts (e.length-1)≠0 then((e.length:Int) -1,21)else(0,0)|none=>(0,0)
def jj (e:List Nd):Int×Int:=
 if e=[]then(0,17)else if 120<e.length then(0,8)else match nP e []with| .inl q=>q| .inr ts=>Jf e ts
def gc (ts:List T):List Int:=(List.range ts.length).map (jc ts)
def ur (ts:List T):(gc ts).length=ts.length:=by simp[gc]
def CD (ts:List T)(j:Nat):(gc ts)[j]? =(ts[j]?).map λt=>(j:Int)+1-t.size:=by
 unfold gc jc;rw[fP];by_cases h:j<ts.length
 ·rw[tn h,d8,dA h];rfl
 ·rw[fq cr,fq bu];rfl
def LJ (ts:List T)(t:T){j:Nat}(h:j<ts.length):jc (ts++[t]) j=jc ts j:=by unfold jc;rw[fN h]
def Jn (ts:List T)(t:T):jc (ts++[t]) ts.length=(ts.length:Int)+1-t.size:=by unfold jc;rw[ju (cw _)];simp
def Wn (ts:List T)(t:T):gc (ts++[t])=gc ts++[(ts.length:Int)+1-t.size]:=by unfold gc;rw[cC,F7,Pv,th,dQ,iC,Jn];congr 1;apply vS;intro j hj;exact LJ ts t (by simpa using hj)
def mz (ts:List T):Prop:= ∀j t,ts[j]? =some t->0<t.size/\t.size<=j+1
def T.size_pos (t:T):0<t.size:=by cases t;rw[T.size];omega
def AQ {ts:List T}(hf:mz ts): ∀(l:List Int) (at_:Int),0<=at_->at_<=ts.length->togSt (gc ts) l at_=lR ts l at_/\ ∀v,lR ts l at_=some v->0<=v/\v<=at_
 |[],at_,h0,h1=>⟨rfl,λv h=>by simp only[lR,bJ]at h;omega⟩|a::r,at_,h0,h1=>by
  have e:togSt (gc ts) (a::r) at_=(togStep (gc ts) at_ a).bind λx=>togSt (gc ts) r x:=rfl;rw[e];unfold togStep lR;by_cases ha:a= -1
  ·rw[bK ha,bK ha];exact AQ hf r at_ h0 h1
  ·rw[bE ha,bE ha];by_cases hb:a=at_-1
   ·rw[bK hb,bK hb,CD];have hlt:a.toNat<ts.length:=bu;have hc:((a.toNat:Nat):Int)=a:=bu;obtain⟨hp,hs⟩:=hf a.toNat ts[a.toNat] (dA hlt);rw[dA hlt,d8,gB];have hz:szT ts a=(ts[a.toNat].size:Int):=by unfold szT;rw[dA hlt]
    rw[hz,show ((a.toNat:Nat):Int)+1-(ts[a.toNat].size:Int)=at_-(ts[a.toNat].size:Int)by omega];obtain⟨k1,k2⟩:=AQ hf r (at_-(ts[a.toNat].size:Int)) bu bu;exact⟨k1,λv hv=>by have:=k2 v hv;omega⟩
   ·rw[bE hb,bE hb];exact⟨rfl,λv h=>by cases h⟩
def szO (ts:List T)(a:Int):Int:=if a= -1 then 0 else szT ts a
def j1 (ts:List T):List Int->Int
 |[]=>0|a::r=>szO ts a+j1 ts r
def C0 {ts:List T}: ∀(l:List Int) (at_ v:Int),lR ts l at_=some v->v=at_-j1 ts l
 |[],at_,v,h=>by simp only[lR,bJ]at h;simp only[j1];omega|a::r,at_,v,h=>by
  unfold lR at h;unfold j1 szO;split at h
  ·rename_i ha;have:=C0 r at_ v h;rw[bK ha];omega
  ·rename_i ha;split at h
   ·have:=C0 r _ v h;rw[bE ha];omega
   ·cases h
def Ho (ts:List T): ∀(a b:List Int),j1 ts (a++b)=j1 ts a+j1 ts b
 |[],b=>by simp[j1]|x::a,b=>by rw[ew,j1,j1,Ho ts a b];omega
def Hp (ts:List T): ∀(a:List Int),j1 ts a.reverse=j1 ts a
 |[]=>rfl|x::a=>by rw[List.reverse_cons,Ho,Hp ts a,j1,j1,j1];omega
def EC (ts:List T): ∀(l:List Int),((sizeA (l.map (fG ts)):Nat):Int)=j1 ts l
 |[]=>by rw[iC,sizeA];rfl|a::r=>by
  rw[dQ,sizeA,j1];have:=EC ts r;have e:((lp (fG ts a):Nat):Int)=szO ts a:=by
   unfold fG szO szT;split
   ·rw[lp];rfl
   ·cases ts[a.toNat]? with|none=>rw[lp];rfl|some t=>rw[lp]
  omega
def Jo {ts:List T}{x:Nd}{i v:Int}(h:lR ts x.args.reverse i=some v):i+1-((mkT ts x).size:Int)=v:=by
 have h1:=C0 _ _ _ h;rw[Hp]at h1;have h2:=EC ts x.args;unfold mkT;rw[T.size]
 push_cast
 omega
def oe {ts:List T}{x:Nd}{i:Nat}(h:jT ts i x=0):oa x=true/\zj x=true/\Ax x=true/\rW i x=true/\(∃v,lR ts x.args.reverse i=some v)/\r9 x=0:=by
 unfold jT at h;split at h
 ·cases h
 rename_i h1;split at h
 ·cases h
 rename_i h2;split at h
 ·cases h
 rename_i h3;split at h
 ·cases h
 rename_i v hv;simp only[Bool.not_eq_false,cM]at h1 h2 h3;exact⟨h1,h2,h3.1,h3.2,⟨v,hv⟩,h⟩
def mz.step {ts:List T}(hf:mz ts){x:Nd}(h:jT ts ts.length x=0):mz (ts++[mkT ts x]):=by
 obtain⟨_,_,_,_,⟨v,hv⟩,_⟩:=oe h;intro j t hj;by_cases hlt:j<ts.length
 ·rw[fN hlt]at hj;exact hf j t hj
 ·rw[ju bu]at hj;have:j-ts.length=0:=by
   rcases Nat.eq_zero_or_pos (j-ts.length)with h0|h0
   ·exact h0
   ·rw[fq cr]at hj;cases hj
  rw[this]at hj;simp only[eu,bJ]at hj;subst hj;refine⟨T.size_pos _,?_⟩;have h1:=Jo hv;have h2:=(AQ hf x.args.reverse ts.length bu bu).2 v hv;omega
def RB {ts:List T}{x:Nd}(h:pf ts x=0):jT ts ts.length x=0/\lh (mkT ts x)=0:=by
 unfold pf at h;split at h
 ·rename_i h1;exact absurd h h1
 ·rename_i h1;exact⟨by simpa using h1,h⟩
section
variable {μ:Mu}
def Jv {t:Int}:(ev E).call 123 [bv t] μ=some (.ret (LV.bool (decide (t=0)||(decide (t=1)||decide (t=2)))) μ):=by refine b8 ?_;rw[ab5];cases decide (t=0)<;>cases decide (t=1)<;>rfl
def GN: ∀(l:List Int),intsOf (cJ l)=some l
 |[]=>rfl|n::r=>by have e:cJ (n::r)=bD n::cJ r:=rfl;rw[e];simp only[intsOf,GN r,bA]
def aan {f zs:List Int}{nx:Int}(h:ED f zs nx=true):(ev E).call 117 [LV.cv (CV.sl (cJ f)),LV.cv (CV.sl (cJ zs)),bv nx] μ=some (.ret (Lc (togSt f zs.reverse nx)) μ):=by refine gy (g:=qM) bx ?_;simp only[qM,dW,bA,cT,u1,dH,GN,h,cL]
def abW {s:List UInt8}(hs:s.length<=200000):(ev E).call 78 [LV.str s] μ=some (.ret (LV.bool (k8 s)) μ):=by refine b8 ?_;have h:=X4 (μ:=μ) (t:=⟨0,0,s⟩) hs;rw[aem];have e:(Tok.cv ⟨0,0,s⟩)=CV.agg [bD 0,bD 0,CV.str s]:=rfl;rw[e]at h;rw[h];simp only[bU];have:uS ⟨0,0,s⟩=if k8 s=true then 0 else 4:=rfl;rw[this];cases k8 s<;>rfl
def na (t:T):t.cv= .view [.int .i64 t.kind,.int .i64 t.typ,.str t.text,.sl (bT t.args)]:=by cases t;rw[T.cv];rfl
def eN (t:T):cY t.cv=true:=by rw[na];rfl
def jS (t:T):noB t.cv=true:=by rw[na];rfl
def uW (t:T):ga 1 t.cv=true:=by rw[na];rfl
def dS (t:T):eQ (some t)=t.cv:=by rw[eQ]
def ip:eQ none= .v (.pointer none):=by rw[eQ]
def Wc (x:Option T):ga 1 (eQ x)=true:=by
 cases x with|none=>rw[ip];rfl|some t=>rw[dS];exact uW t
def gR (x:Option T):cY (eQ x)=true:=by
 cases x with|none=>rw[ip];rfl|some t=>rw[dS];exact eN t
def iQ: ∀(l:List (Option T)),ee 1 (bT l)=true
 |[]=>by rw[bT];rfl|x::r=>by rw[bT];simp only[ee,Wc,iQ r]
def p5: ∀(l:List T),ee 1 (l.map T.cv)=true
 |[]=>rfl|t::r=>by rw[dQ];simp only[ee,uW,p5 r]
def eF (l:List (Option T)):(bT l).length=l.length:=by rw[rz];simp
def wD (a b:List (Option T)):bT (a++b)=bT a++bT b:=by simp only[rz,th]
def mG (l:List (Option T))(n:Nat):dr (bT l) (n:Int)=(l[n]?).map eQ:=by rw[mt,rz,fP]
def mm (t:T):jl (LV.cv t.cv)=some false:=by rw[na];rfl
def sR (t:T):jk (LV.cv t.cv)=some false:=by rw[na];rfl
def nJ:jl (LV.cv (eQ none))=some true:=by rw[ip];rfl
def Ae (t:T):f8 (LV.cv (jf t.cv))=some [.int .i64 t.kind,.int .i64 t.typ,.str t.text,.sl (bT t.args)]:=by rw[na];rfl
theorem la {n:Int}:bI .i64 (LV.cv (bD n))=some n:=rfl
theorem u0 {l:List CV}:cR (LV.cv (CV.sl l))=some l:=rfl
def Qq {t:T}(h: ∀x,(t.kind=6\/t.kind=7)->t.args=[x]-> ∃u,x=some u):(ev E).call 76 [LV.cv t.cv] μ=some (.ret (LV.bool (ib t)) μ):=by
 refine b8 ?_;rw[na,ael];have hl:((bT t.args).length:Int)=(t.args.length:Int):=by rw[eF]
 have plain:(cond (decide (t.kind=(0:Int))) (callK ((ev E).call 123 [bv t.typ] μ) (λv29 μ30=>opt (ce v29) λb33=>some (.ret (LV.bool b33) μ30)) pP) (some (.ret (LV.bool false) μ)))=some (.ret (LV.bool (decide (t.kind=0)&&DR t.typ)) μ):=by rw[Jv];simp only[bU];cases decide (t.kind=0)<;>rfl
 have one: ∀u,t.args=[some u]->dr (bT t.args) (0:Int)=some u.cv:=by intro u hu;have:=mG t.args 0;rw[hu]at this |-;have e0:((0:Nat):Int)=0:=rfl;rw[e0]at this;rw[this,eu,d8,dS]
 rw[hl];by_cases h6:t.kind=6
 ·have h7:decide (t.kind=6\/t.kind=7)=true:=by simp[h6]
  rw[cu h6,bY];by_cases h1:t.args.length=1
  ·obtain⟨x,hx⟩:=Ai.1 h1;obtain⟨u,rfl⟩:=h x (.inl h6) hx;rw[show decide ((t.args.length:Int)=1)=true by simp[h1],bY,one u hx];simp only[bA,eN,cL,sR,Ae,dF,dW,la,nH,u0,cT,Jv];simp only[bU];unfold ib;rw[h7,hx];dsimp only;unfold DR;cases decide (u.kind=0)<;>rfl
  ·rw[show decide ((t.args.length:Int)=1)=false by simp;omega,bW,plain];unfold ib;rw[h7];split
   ·rename_i u _ hu;rw[hu]at h1;simp at h1
   ·rfl
 ·rw[cE h6,bW];by_cases h8:t.kind=7
  ·have h7:decide (t.kind=6\/t.kind=7)=true:=by simp[h8]
   rw[cu h8,bY];by_cases h1:t.args.length=1
   ·obtain⟨x,hx⟩:=Ai.1 h1;obtain⟨u,rfl⟩:=h x (.inr h8) hx;rw[show decide ((t.args.length:Int)=1)=true by simp[h1],bY,one u hx];simp only[bA,eN,cL,sR,Ae,dF,dW,la,nH,u0,cT,Jv];simp only[bU];unfold ib;rw[h7,hx];dsimp only;unfold DR;cases decide (u.kind=0)<;>rfl
   ·rw[show decide ((t.args.length:Int)=1)=false by simp;omega,bW,plain];unfold ib;rw[h7];split
    ·rename_i u _ hu;rw[hu]at h1;simp at h1
    ·rfl
  ·rw[cE h8,bW,plain];unfold ib;rw[show decide (t.kind=6\/t.kind=7)=false by simp[h6,h8]]
def isR:Option T->Bool
 |some t=>decide (t.kind=3)|none=>false
def Ww {k ty:Int}{s:List UInt8}{xs l:List CV}{ar:List (Option T)}(hl:ar.length<=100000): ∀(m n:Nat),n+m=ar.length->
 Dc (ev E) k ty s xs (bT ar) (ar.length:Int) (n:Int) μ=some (if(!decide (k=2)&&(ar.drop n).any isR)=true then Cm 3 μ else Cn k ty s xs μ):=by
 intro m
 induction m with
 |zero=>intro n hn;refine dy ?_;rw[O4,zo bu,bW,gX bu];simp|succ m ih=>
  intro n hn;have hlt:n<ar.length:=bu;refine dy ?_;rw[O4,zp hlt,bY,mG,dA hlt,d8,bA,gR,cL,gU bu,ih (n+1) bu,iM hlt,vJ];cases ar[n]with
  |none=>rw[nJ];simp only[bA,db,bW];rfl|some t=>
   rw[dS,mm];simp only[bA,dF,bY,sR,cL,Ae,dW,la,nH,u0,cT];by_cases h3:t.kind=3
   ·rw[cu h3,bY,show isR (some t)=true by simp[isR,h3]];by_cases h2:k=2
    ·simp[h2]
    ·simp[h2]
   ·rw[cE h3,bW,show isR (some t)=false by simp[isR,h3],om]
def Wx {k ty:Int}{s:List UInt8}{xs:List CV}{ar:List (Option T)}(hl:ar.length<=100000)(hk0:0<=k)(hk:k<25)
 (hok: ∀t,some t∈ar->0<=t.kind/\t.kind<25) (hp:k=4-> ∀x∈ar,∃t,x=some t/\ ∀y,(t.kind=6\/t.kind=7)->t.args=[y]-> ∃u,y=some u): ∀(m n:Nat),n+m=ar.length->
 Ak (ev E) k ty s xs (bT ar) (ar.length:Int) (n:Int) μ=some (if opE k n (ar.drop n)=0 then Co μ else sF (opE k n (ar.drop n)) μ):=by
 intro m
 induction m with
 |zero=>intro n hn;refine dy ?_;rw[O5,zo bu,bW,gX bu];rfl|succ m ih=>
  intro n hn;have hlt:n<ar.length:=bu;have hmem:ar[n]∈ar:=q7 hlt;have hd:ar.drop n=ar[n]::ar.drop (n+1):=iM hlt;have eag:fJ (LV.cv (CV.agg ij))=some ij:=rfl;have level: ∀t,ar[n]=some t-> ∀{β:Type} {f:Int->Int->Int->List CV->List UInt8->Option β},(bB (fc t.kind 25) (opt (il E.P 113 ij (Int.toNat t.kind*5)) λc=>fW (LV.cv c) f))=f (lvl t.kind) (oX t.kind) (mV t.kind) (cJ (jR t.kind)) (cz t.kind):=by intro t ht β f;have:=hok t (by rw[<-ht];exact hmem);exact nQ this.1 this.2
  refine dy ?_;rw[O5,zp hlt,bY,mG,dA hlt,d8,bA,gR,cL,gU bu,ih (n+1) bu,hd];by_cases h4:k=4
  ·rw[cu h4,bY];obtain⟨t,ht,hu⟩:=hp h4 _ hmem;have hlev:= @level t ht;rw[ht]at hmem |-;rw[dS,Qq hu,mm];simp only[bU,tY,eag,sR,Ae,la,nH,u0,dF,hlev,TI hk0 hk];have hpe:kb k n (lvl t.kind)=true:=by subst h4;exact Ng bu bu n _
   have he:opE k n (some t::ar.drop (n+1))=if ib t=false then 13 else opE k (n+1) (ar.drop (n+1)):=by show (if k=4/\u4 (some t)=false then(13:Int)else if kb k n (lvl t.kind)=false then 9 else opE k (n+1) (ar.drop (n+1)))=_;rw[hpe];simp[h4,u4]
   rw[hpe,he];simp only[db,bW];cases hq:ib t with|true=>simp only[db,bW,Gg,dG];exact ih (n+1) bu|false=>simp
  ·rw[cE h4,bW];cases ht:ar[n]with
   |none=>
    have he:opE k n (none::ar.drop (n+1))=opE k (n+1) (ar.drop (n+1)):=by show (if k=4/\u4 none=false then(13:Int)else opE k (n+1) (ar.drop (n+1)))=_;rw[bE (λh=>h4 h.1)]
    rw[nJ,he];simp only[bA,db,bW]
   |some t=>
    have hlev:= @level t ht;have he:opE k n (some t::ar.drop (n+1))=if kb k n (lvl t.kind)=false then 9 else opE k (n+1) (ar.drop (n+1)):=by show (if k=4/\u4 (some t)=false then(13:Int)else if kb k n (lvl t.kind)=false then 9 else opE k (n+1) (ar.drop (n+1)))=_;rw[bE (λh=>h4 h.1)]
    rw[dS,mm,he];simp only[bU,tY,eag,sR,Ae,la,nH,u0,dF,hlev,TI hk0 hk];cases kb k n (lvl t.kind)with|true=>simp only[db,bW,Gg,dG];exact ih (n+1) bu|false=>simp
def abV {t:T}(hl:t.args.length<=100000)(hk0:0<=t.kind)(hk:t.kind<25)
 (hok: ∀u,some u∈t.args->0<=u.kind/\u.kind<25) (hp:t.kind=4-> ∀x∈t.args,∃u,x=some u/\ ∀y,(u.kind=6\/u.kind=7)->u.args=[y]-> ∃v,y=some v):
 (ev E).call 68 [LV.cv t.cv] μ=some (.ret (bv (lh t)) μ):=by
 refine b8 ?_;have h1:=Ww (μ:=μ) (k:=t.kind) (ty:=t.typ) (s:=t.text) (xs:=bT t.args) (l:=[]) (ar:=t.args) hl t.args.length 0 bu;have h2:=Wx (μ:=μ) (k:=t.kind) (ty:=t.typ) (s:=t.text) (xs:=bT t.args) (ar:=t.args) hl hk0 hk hok hp t.args.length 0 bu;have e0:((0:Nat):Int)=0:=rfl;rw[e0,jx]at h1 h2;rw[na,aei,eF,h1,bA];unfold lh;have er:FP t.kind t.args=(!decide (t.kind=2)&&t.args.any isR):=by unfold FP;congr 2
 rw[er];split
 ·exact Q8 _ _ _
 ·rw[Q9,eF,h2,bA];by_cases h0:opE t.kind 0 t.args=0
  ·rw[bK h0,Rb,h0]
  ·rw[bE h0];exact Ra _ _ _
end
end Go.Abs
