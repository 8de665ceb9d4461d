/-
  The statement ExprTokensCardSaid, proved; part 8 of 11 of its proof.
-/
import Derived.Test.YtmemoghbijcebaaGreatDoorT5
import Derived.Test.YtmemoghbijcebaaGreatDoorT6
import Derived.Test.YtmemoghbijcebaaGreatDoorT4
import Derived.Lib.MapLaws
import Derived.Lib.TrimAscii
import Derived.Lib.Case
import Derived.Lib.ItoaLen
import Derived.Lib.IndexMore
import Derived.Lib.IndexBytes
import Derived.Lib.Replace
import Derived.Lib.AtoiAllCases
set_option linter.all false
set_option maxRecDepth 100000
namespace Go.Abs
open Go Go.Proofs
def Sc (μ:Mu)(l i:Nat)(s:List UInt8)(fx:Bool)(r:List LV):Prop:=ce μ l i= .cells (LV.str s::LV.bool fx::r)
def cB:List UInt8->Nat
 |[]=>0|c::r=>if c=32 then cB r+1 else 0
def skipN (fx:Bool)(s:List UInt8)(n:Nat):Nat:=if fx then n+cB (s.drop n)else n
section
variable {μ:Mu}{l i:Nat}{s:List UInt8}{fx:Bool}{r:List LV}
def afa (h:Sc μ l i s fx r)(hs:s.length<=1000000): ∀(k n:Nat),n+k=s.length->LG (ev E) l i (n:Int) μ=some (rP (skipN fx s n:Nat) μ):=by
 intro k
 induction k with
 |zero=>intro n hk;refine cC ?_;rw[NQ,h];simp only[Fz,zD,bx,bX,kO,gA,dT];have:List.drop n s=[]:=dS bu;have h1:decide ((n:Int)<(s.length:Int))=false:=b7;rw[h1];cases fx<;>simp[skipN,cB,this]|succ k ih=>
  intro n hk;refine cC ?_;rw[NQ,h];simp only[Fz,zD,bx,bX,kO,gA,dT];have h1:decide ((n:Int)<(s.length:Int))=true:=b7;have hn:n<s.length:=bu;rw[h1,sA,dK hn,bx];have hd:List.drop n s=s[n]::List.drop (n+1) s:=dY hn;have e:IntKind.wrap .i64 ((n:Int)+1)=((n+1:Nat):Int):=by rw[el bu bu];omega
  rw[e,ih (n+1) bu];cases fx
  ·simp[skipN]
  ·simp only[bH,skipN,cQ,hd,cB];by_cases hc:s[n]=32
   ·have:decide (((s[n]).toNat:Int)=32)=true:=by rw[hc];decide
    rw[this];simp only[bH,hc,cQ];congr 3;omega
   ·have:decide (((s[n]).toNat:Int)=32)=false:=by simp only[gL];intro h2;apply hc;apply sM;have:(s[n]).toNat=32:=bu;rw[this];rfl
    rw[this];simp[hc]
def agQ (h:Sc μ l i s fx r)(hs:s.length<=1000000){n:Nat}(hn:n<=s.length):(ev E).call 207 [LV.cv (CV.ref l i 0),bv (n:Int)] μ=some (.ret (bv (skipN fx s n:Nat)) μ):=by refine bW ?_;rw[ajl,afa h hs (s.length-n) n bu,bx,Rt]
def rU: ∀(l:List UInt8),cB l<=l.length
 |[]=>ct _|c::r=>by unfold cB;have:=rU r;split<;>simp<;>omega
def O7 {n:Nat}(hn:n<=s.length):skipN fx s n<=s.length:=by unfold skipN;have:=rU (s.drop n);rw[fY]at this;split<;>omega
def O6 {n:Nat}:n<=skipN fx s n:=by unfold skipN;split<;>omega
def atC (fx:Bool)(s:List UInt8)(n:Nat):UInt8:=(s[skipN fx s n]?).getD 0
def atE (fx:Bool)(s:List UInt8)(n:Nat):Nat:=if skipN fx s n<s.length then skipN fx s n+1 else skipN fx s n
def mY (h:Sc μ l i s fx r)(hs:s.length<=1000000){n:Nat}(hn:n<=s.length):
 (ev E).call 189 [LV.cv (CV.ref l i 0),bv (n:Int)] μ=some (.ret (.ltup [LV.int .u8 ((atC fx s n).toNat:Int),bv (atE fx s n:Nat)]) μ):=by
 refine bW ?_;rw[ajb,agQ h hs hn,bV,eo,bx,h,kO,gA,bx,dT,bx];have hle:=O7 (fx:=fx) hn;by_cases hlt:skipN fx s n<s.length
 ·have h1:decide ((s.length:Int)<=(skipN fx s n:Int))=false:=b7;rw[h1,bI];have h2:Xr (ev E) l i (skipN fx s n:Nat) μ=some (Aw ((atC fx s n).toNat:Int) (atE fx s n:Nat) μ):=by refine ck ?_;rw[acz,h,kO,gA,bx,dT,bx,sA,dK hlt,bx];simp only[atC,atE,hlt,cQ,dK,ia];rw[el bu bu];rfl
  rw[h2,bx,Qt]
 ·have h1:decide ((s.length:Int)<=(skipN fx s n:Int))=true:=b7;rw[h1,bH];have:s[skipN fx s n]? =none:=eB bu;simp only[atC,atE,hlt,du,this,Jc];rfl
def j3 (fx:Bool)(p:UInt8->Bool):List UInt8->Nat->List UInt8×Nat
 |[],_=>([],0)|c::r,k=>if fx&&c == 32 then j3 fx p r (k+1)else if c != 0&&p c then(c::(j3 fx p r 0).1,k+1+(j3 fx p r 0).2)else([],0)
def fc (fx:Bool)(p:UInt8->Bool)(s:List UInt8)(n:Nat):List UInt8:=(j3 fx p (s.drop n) 0).1
def runE (fx:Bool)(p:UInt8->Bool)(s:List UInt8)(n:Nat):Nat:=n+(j3 fx p (s.drop n) 0).2
def Eb {p:UInt8->Bool}: ∀(l:List UInt8) (k:Nat),j3 true p l k=j3 true p (l.drop (cB l)) (k+cB l)
 |[],k=>rfl|c::r,k=>by
  by_cases hc:c=32
  ·have e1:j3 true p (c::r) k=j3 true p r (k+1):=by simp[j3,hc]
   have e2:cB (c::r)=cB r+1:=by simp[cB,hc]
   rw[e1,e2,Eb r (k+1)];simp only[tW];congr 1;omega
  ·have e2:cB (c::r)=0:=by simp[cB,hc]
   rw[e2];rfl
def ri: ∀(l:List UInt8) (c:UInt8) (r:List UInt8),l.drop (cB l)=c::r->c≠32
 |[],c,r,h=>by simp[cB]at h|d::t,c,r,h=>by
  by_cases hd:d=32
  ·have e2:cB (d::t)=cB t+1:=by simp[cB,hd]
   rw[e2,tW]at h;exact ri t c r h
  ·have e2:cB (d::t)=0:=by simp[cB,hd]
   rw[e2]at h;simp only[d7,q7]at h;rw[<-h.1];exact hd
def O1 {p:UInt8->Bool}{n:Nat}:(fc fx p s n,runE fx p s n)=if atC fx s n != 0&&p (atC fx s n)then(atC fx s n::fc fx p s (atE fx s n),runE fx p s (atE fx s n))else([],n):=by
 have key: ∀m k,skipN fx s n=m->m=n+k->j3 fx p (s.drop n) 0=j3 fx p (s.drop m) k->(∀c t,s.drop m=c::t->(fx&&c == 32)=false)->
  (fc fx p s n,runE fx p s n)=if atC fx s n != 0&&p (atC fx s n)then(atC fx s n::fc fx p s (atE fx s n),runE fx p s (atE fx s n))else([],n):=by
  intro m k hm hk hrun hc;simp only[fc,runE,atC,atE,hm];rw[hrun];by_cases hlt:m<s.length
  ·have hd:s.drop m=s[m]::s.drop (m+1):=dY hlt;have hc':=hc _ _ hd;rw[hd];simp only[j3,hc',d6,du,dK hlt,ia,hlt,cQ];split
   ·simp only[dB,jW];omega
   ·rfl
  ·have hd:s.drop m=[]:=dS bu;rw[hd];simp[j3,eB (by omega:s.length<=m)]
 cases fx with
 |false=>exact key n 0 rfl rfl rfl λc t _=>rfl|true=>
  refine key (n+cB (s.drop n)) (cB (s.drop n)) (by simp[skipN]) rfl ?_ λc t h=> ?_
  ·rw[Eb,ib,fZ]
  ·have:=ri (s.drop n) c t (by rw[ib];exact h);simp[this]
def Ke {p:UInt8->Bool}{n:Nat}(h:(atC fx s n != 0&&p (atC fx s n))=true):fc fx p s n=atC fx s n::fc fx p s (atE fx s n)/\runE fx p s n=runE fx p s (atE fx s n):=by have:=O1 (fx:=fx) (s:=s) (p:=p) (n:=n);rw[h,bC rfl,dB]at this;exact this
def zw {p:UInt8->Bool}{n:Nat}(h:(atC fx s n != 0&&p (atC fx s n))=false):fc fx p s n=[]/\runE fx p s n=n:=by have:=O1 (fx:=fx) (s:=s) (p:=p) (n:=n);rw[h,bB bE,dB]at this;exact this
def X9 {n:Nat}(h:atC fx s n≠0):n<atE fx s n/\atE fx s n<=s.length:=by
 have h1:=O6 (fx:=fx) (s:=s) (n:=n);by_cases hlt:skipN fx s n<s.length
 ·simp only[atE,hlt,cQ];omega
 ·exfalso;apply h;simp only[atC,eB (by omega:s.length<=skipN fx s n),Jc]
def lW {n:Nat}(hn:n<=s.length):atE fx s n<=s.length:=by have:=O7 (fx:=fx) hn;unfold atE;split<;>omega
def wg {c:UInt8}:decide ((c.toNat:Int)=0)= !(c != 0):=by
 by_cases h:c=0
 ·subst h;rfl
 ·have:c.toNat≠0:=λh2=>h (sM h2);have h1:(c != 0)=true:=by simpa using h
  rw[h1];simp only[cS,gL];omega
def ae7 (h:Sc μ l i s fx r)(hs:s.length<=1000000){f:FuncId}{p:UInt8->Bool}(hp: ∀c:UInt8,(ev E).call f [LV.int .u8 (c.toNat:Int)] μ=some (.ret (LV.bool (p c)) μ)):
 ∀(k n:Nat) (acc:List UInt8),s.length-n<=k->n<=s.length->acc.length+(s.length-n)<=1000000->LD (ev E) l i (n:Int) f (dD acc) μ=some (vz (acc++fc fx p s n) (runE fx p s n:Nat) μ):=by
 intro k
 induction k with
 |zero=>
  intro n acc hk hn ha;refine cC ?_;rw[NM,mY h hs hn];simp only[bV,dF,bx,dc,eo,cR];have h0:atC fx s n=0:=by
   by_cases h0:atC fx s n=0
   ·exact h0
   ·have:=X9 h0;omega
  obtain⟨h1,h2⟩:=zw (fx:=fx) (s:=s) (p:=p) (n:=n) (by rw[h0];rfl);rw[h0,h1,h2];simp only[wg,gv,bx,fy];rfl
 |succ k ih=>
  intro n acc hk hn ha;refine cC ?_;rw[NM,mY h hs hn];simp only[bV,dF,bx,dc,eo,cR,wg];by_cases h0:atC fx s n=0
  ·obtain⟨h1,h2⟩:=zw (fx:=fx) (s:=s) (p:=p) (n:=n) (by rw[h0];rfl);rw[h0,h1,h2];simp only[gv,bx,fy];rfl
  ·have h3:(atC fx s n != 0)=true:=by simp[h0]
   rw[h3,cS,bI,hp,bV,bX,bx];cases hpc:p (atC fx s n)with
   |false=>obtain⟨h1,h2⟩:=zw (fx:=fx) (s:=s) (p:=p) (n:=n) (by rw[hpc];simp);rw[h1,h2];simp only[c8,bH,gv,bx,fy]
   |true=>
    obtain⟨h1,h2⟩:=Ke (fx:=fx) (s:=s) (p:=p) (n:=n) (by rw[hpc,h3];rfl);obtain⟨h4,h5⟩:=X9 h0;have h6:Xt (ev E) l i f (dD acc) ((atC fx s n).toNat:Int) (atE fx s n:Nat) μ=some (AB l i (atE fx s n:Nat) f (dD (acc++[atC fx s n])) μ):=by refine ck ?_;have e:[CV.int .u8 ((atC fx s n).toNat:Int)]=dD [atC fx s n]:=rfl;rw[acB,e,Pp b7,cK,Py]
    simp only[cS,bI,h6,bx,Qy];rw[ih (atE fx s n) (acc++[atC fx s n]) bu h5 b7,h1,h2];simp
def w6 (h:Sc μ l i s fx r)(hs:s.length<=1000000){f:FuncId}{p:UInt8->Bool}(hp: ∀c:UInt8,(ev E).call f [LV.int .u8 (c.toNat:Int)] μ=some (.ret (LV.bool (p c)) μ)){n:Nat}(hn:n<=s.length):
 (ev E).call 190 [LV.cv (CV.ref l i 0),bv (n:Int),LV.cv (CV.clo f [])] μ=some (.ret (.ltup [LV.str (fc fx p s n),bv (runE fx p s n:Nat)]) μ):=by
 refine bW ?_;have:=ae7 h hs hp (s.length-n) n [] (ct _) hn b7;have e:dD []=[]:=rfl;rw[e,eR]at this;rw[ajc,this,bx,Rp]
end
def cM (c:UInt8):Bool:=(decide (97<=c.toNat)&&decide (c.toNat<=122))||(decide (65<=c.toNat)&&decide (c.toNat<=90))
def bL (c:UInt8):Bool:=decide (48<=c.toNat)&&decide (c.toNat<=57)
def cX (c:UInt8):Bool:=cM c||bL c||decide (c.toNat=95)
section
variable {μ:Mu}
def dI (a b:Nat):decide ((a:Int)<=(b:Int))=decide (a<=b):=bE
def GN {c:UInt8}:(ev E).call 135 [LV.int .u8 (c.toNat:Int)] μ=some (.ret (LV.bool (cM c)) μ):=by refine bW ?_;rw[aiK];have e1:decide ((97:Int)<=(c.toNat:Int))=decide (97<=c.toNat):=dI 97 _;have e2:decide ((c.toNat:Int)<=122)=decide (c.toNat<=122):=dI _ 122;have e3:decide ((65:Int)<=(c.toNat:Int))=decide (65<=c.toNat):=dI 65 _;have e4:decide ((c.toNat:Int)<=90)=decide (c.toNat<=90):=dI _ 90;rw[e1,e2,e3,e4];unfold cM;cases decide (97<=c.toNat)<;>cases decide (c.toNat<=122)<;>cases decide (65<=c.toNat)<;>rfl
def sc {c:UInt8}:(ev E).call 160 [LV.int .u8 (c.toNat:Int)] μ=some (.ret (LV.bool (bL c)) μ):=by refine bW ?_;rw[aiY];have e1:decide ((48:Int)<=(c.toNat:Int))=decide (48<=c.toNat):=dI 48 _;have e2:decide ((c.toNat:Int)<=57)=decide (c.toNat<=57):=dI _ 57;rw[e1,e2];unfold bL;cases decide (48<=c.toNat)<;>rfl
def agB {c:UInt8}:(ev E).call 138 [LV.int .u8 (c.toNat:Int)] μ=some (.ret (LV.bool (cX c)) μ):=by
 refine bW ?_;rw[aiL,GN];simp only[bQ];unfold cX;cases cM c
 ·simp only[bQ,sc];cases bL c
  ·simp only[bQ,qq];have:decide ((c.toNat:Int)=95)=decide (c.toNat=95):=b7;rw[this]
  ·rfl
 ·rfl
def yX (x:List UInt8):List (List UInt8)->Nat->Int
 |[],_=> -1|a::r,j=>if x=a then(j:Int)else yX x r (j+1)
def Fb (x:List UInt8): ∀(l:List (List UInt8)) (j:Nat),decide (0<=yX x l j)=l.contains x
 |[],j=>rfl|a::r,j=>by
  unfold yX;by_cases h:x=a
  ·simp[h]
  ·have h1:(x == a)=false:=by simp[h]
   rw[bB h,Fb x r (j+1),List.contains_cons,h1,qq]
noncomputable def Vm (n:Int)(μ:Mu):St:=if n= -1 then AZ μ else AY n μ
def aha {l:List (List UInt8)}{x:List UInt8}(hl:l.length<=1000000): ∀(k j:Nat),j+k=l.length->
 Lx (ev E) (dh l) x (l.length:Int) (j:Int) μ=some (Vm (yX x (l.drop j) j) μ):=by
 intro k
 induction k with
 |zero=>intro j hj;refine cC ?_;rw[NG];have:List.drop j l=[]:=dS bu;have h1:decide ((j:Int)<(l.length:Int))=false:=b7;rw[h1,this];rfl|succ k ih=>
  intro j hj;refine cC ?_;rw[NG];have hlt:j<l.length:=bu;have h1:decide ((j:Int)<(l.length:Int))=true:=b7;have hd:List.drop j l=l[j]::List.drop (j+1) l:=dY hlt;have hg:(dh l)[j]? =some (CV.str l[j]):=by simp[dh,hlt]
  have e:IntKind.wrap .i64 ((j:Int)+1)=((j+1:Nat):Int):=by rw[el bu bu];omega
  rw[h1,eJ,hg,hd,e];simp only[bQ,mV,yX];by_cases h:x=l[j]
  ·rw[bC h];have:decide (x=l[j])=true:=by simp[h]
   rw[this,bH,Vm,bB bu]
  ·rw[bB h];have:decide (x=l[j])=false:=by simp[h]
   rw[this,bI,ih (j+1) bu]
def abh {l:List (List UInt8)}{x:List UInt8}(hl:l.length<=1000000):bJ E (ev E) 126 [LV.cv (CV.sl (dh l)),LV.str x] μ=some (.ret (bv (yX x l 0)) μ):=by
 have e:(dh l).length=l.length:=by simp[dh]
 have:=aha (μ:=μ) (l:=l) (x:=x) hl l.length 0 bu;rw[d7]at this;rw[aiH,e];have e0:((0:Nat):Int)=(0:Int):=rfl;rw[<-e0,this,bx,Vm];by_cases h:yX x l 0= -1
 ·rw[bC h,Q8,h]
 ·rw[bB h,Q7]
def agz {l:List (List UInt8)}{x:List UInt8}(hl:l.length<=1000000):(ev E).call 126 [LV.cv (CV.sl (dh l)),LV.str x] μ=some (.ret (bv (yX x l 0)) μ):=bW (abh hl)
def GQ {l:List (List UInt8)}{x:List UInt8}(hl:l.length<=1000000):(ev E).call 82 [LV.cv (CV.sl (dh l)),LV.str x] μ=some (.ret (LV.bool (l.contains x)) μ):=by refine bW ?_;rw[akU,agz hl];simp only[bQ];rw[Fb]
end
def upB (c:UInt8):UInt8:=if 97<=c.toNat/\c.toNat<=122 then c-32 else c
def afY: ∀i:Fin 128,(if 0<=Lib.toUpperU (i.val:Int)then Lib.encodeRune (Lib.toUpperU (i.val:Int))else [])=[upB (UInt8.ofNat i.val)]:=cf
def q5: ∀(l:List UInt8),(∀b∈l,b.toNat<128)->Lib.toUpperD l=l.map upB
 |[],_=>rfl|b::t,ha=>by have hb:=ha b j7;have ih:=q5 t (λx hx=>ha x (fw _ hx));have h1:=afY ⟨b.toNat,hb⟩;simp only at h1;unfold Lib.toUpperD at ih |-;rw[Lib.mapD_step Lib.toUpperU (b::t) bE,Lib.decodeL_ascii b t hb];dsimp only;rw[h1,tW,d7,ih];simp
def FD {fx:Bool}{p:UInt8->Bool}: ∀(l:List UInt8) (k:Nat),∀b∈(j3 fx p l k).1,p b=true
 |[],k,b,hb=>by simp[j3]at hb|c::r,k,b,hb=>by
  unfold j3 at hb;split at hb
  ·exact FD r (k+1) b hb
  ·split at hb
   ·rename_i h;simp only[ed]at hb;rcases hb with rfl|hb
    ·simp only[cE]at h;exact h.2
    ·exact FD r 0 b hb
   ·simp at hb
def uR {fx:Bool}{p:UInt8->Bool}{s:List UInt8}{n:Nat}: ∀b∈fc fx p s n,p b=true:=FD _ _
def ek:List (List UInt8):=[[46,76,84,46],[46,76,69,46],[46,69,81,46],[46,78,69,46],[46,71,69,46],[46,71,84,46],[46,78,79,84,46],[46,65,78,68,46],[46,79,82,46],[46,69,81,86,46],[46,78,69,81,86,46]]
def dl:List (List UInt8):=[[42,42],[47,47],[61,62],[42],[47],[43],[45],[40],[41],[44],[58],[61],[37]]
def kh:List UInt8:=[46,84,82,85,69,46]
def jh:List UInt8:=[46,70,65,76,83,69,46]
abbrev up (s:List UInt8):List UInt8:=Lib.toUpperD s
def Da {fx:Bool}{p:UInt8->Bool}: ∀(l:List UInt8) (k:Nat),(j3 fx p l k).1.length<=l.length/\(j3 fx p l k).2<=k+l.length
 |[],k=>⟨ct _,by simp[j3]⟩|c::r,k=>by
  unfold j3;have h1:=Da (fx:=fx) (p:=p) r (k+1);have h2:=Da (fx:=fx) (p:=p) r 0;split
  ·simp only[dz];omega
  ·split
   ·simp only[dz];omega
   ·simp
section
variable {μ:Mu}{l i:Nat}{s:List UInt8}{fx:Bool}{r:List LV}
def nJ {p:UInt8->Bool}{n:Nat}(hn:n<=s.length):runE fx p s n<=s.length:=by have:=(Da (fx:=fx) (p:=p) (s.drop n) 0).2;rw[fY]at this;unfold runE;omega
def oK {p:UInt8->Bool}{n:Nat}:(fc fx p s n).length<=s.length:=by have:=(Da (fx:=fx) (p:=p) (s.drop n) 0).1;rw[fY]at this;unfold fc;omega
def rn {c:UInt8}(h:cM c=true):c.toNat<128:=by simp only[cM,gO,cE,dA]at h;omega
def ahS {n:Nat}:Lib.toUpperD (fc fx cM s n)=(fc fx cM s n).map upB:=q5 _ λb hb=>rn (uR b hb)
def ad3:(ev E).call 92 [] μ=some (.ret (LV.osl (dh ek)) μ):=bW (by rw[akZ];rfl)
def VB:(ev E).call 93 [] μ=some (.ret (LV.osl (dh dl)) μ):=bW (by rw[ak0];rfl)
def fM (fx:Bool)(s:List UInt8)(n:Nat):List UInt8:=[46]++up (fc fx cM s (atE fx s n))++[46]
def dotEnd (fx:Bool)(s:List UInt8)(n:Nat):Nat:=atE fx s (runE fx cM s (atE fx s n))
def jb (fx:Bool)(s:List UInt8)(n:Nat):Bool:=decide (atC fx s (runE fx cM s (atE fx s n))=46)&&(ek.contains (fM fx s n)||decide (fM fx s n=kh)||decide (fM fx s n=jh))
def dE (fx:Bool)(s:List UInt8)(n:Nat):List UInt8×Nat×Bool:=if atC fx s n=46 then(fM fx s n,dotEnd fx s n,jb fx s n)else([],n,false)
def eZ {c:UInt8}{k:Nat}(hk:k<256):decide ((c.toNat:Int)=(k:Int))=decide (c=UInt8.ofNat k):=by
 have h2:(UInt8.ofNat k).toNat=k:=by simp[hk]
 by_cases h:c=UInt8.ofNat k
 ·subst h;rw[h2];simp
 ·have h1:c.toNat≠k:=λe=>h (sM (by rw[e,h2]));simp only[h,oy,gL];omega
def Zr (h:Sc μ l i s fx r)(hs:s.length<=200000){n:Nat}(hn:n<=s.length):
 (ev E).call 193 [LV.cv (CV.ref l i 0),bv (n:Int)] μ=some (.ret (.ltup [LV.str (dE fx s n).1,bv ((dE fx s n).2.1:Nat),LV.bool (dE fx s n).2.2]) μ):=by
 refine bW ?_;rw[ajf,mY h bu hn];have e46: ∀c:UInt8,decide ((c.toNat:Int)=46)=decide (c=46):=λc=>eZ (k:=46) bu;simp only[bQ,e46];by_cases hc:atC fx s n=46
 ·have hle:=lW (fx:=fx) hn;have hle2:=nJ (fx:=fx) (p:=cM) hle;have hr:=oK (fx:=fx) (s:=s) (p:=cM) (n:=atE fx s n);have hu:(Lib.toUpperD (fc fx cM s (atE fx s n))).length<=s.length:=by rw[ahS,ly];exact hr
  have hG:Xu (ev E) l i (atE fx s n:Nat) μ=some (lA (fM fx s n) (dotEnd fx s n:Nat) (jb fx s n) μ):=by refine ck ?_;rw[acD,w6 h bu (λc=>GN) hle];simp only[bQ];rw[mY h bu hle2];simp only[bQ];rw[M8 bu];simp only[bQ];rw[dV b7,dV b7];simp only[bQ,ad3];rw[GQ (l:=ek) cf];simp only[bQ,e46];have ht:[46]++Lib.toUpperD (fc fx cM s (atE fx s n))++[46]=fM fx s n:=rfl;have h3:([46,84,82,85,69,46]:List UInt8)=kh:=rfl;have h4:([46,70,65,76,83,69,46]:List UInt8)=jh:=rfl;rw[ht,h3,h4];unfold jb;have he:atE fx s (runE fx cM s (atE fx s n))=dotEnd fx s n:=rfl;rw[he];cases ek.contains (fM fx s n)<;>cases decide (fM fx s n=kh)<;>cases decide (atC fx s (runE fx cM s (atE fx s n))=46)<;>simp
  rw[hG];simp only[hc,iB,bQ,QB,dE,cQ]
 ·simp only[hc,oy,bQ,dE,du]
end
section
variable {μ:Mu}{l i:Nat}{s:List UInt8}{fx:Bool}{r:List LV}
def PD: ∀i:Fin 256,IntKind.wrap .u8 ((BitVec.ofInt (IntKind.bits .u8) (i.val:Int) &&& ~~~BitVec.ofInt (IntKind.bits .u8) (32:Int)).toNat:Int)=(((UInt8.ofNat i.val) &&& 223).toNat:Int):=cf
def aeO (c:UInt8):IntKind.wrap .u8 ((BitVec.ofInt (IntKind.bits .u8) (c.toNat:Int) &&& ~~~BitVec.ofInt (IntKind.bits .u8) (32:Int)).toNat:Int)=((c &&& 223).toNat:Int):=by have:=PD ⟨c.toNat,c.toNat_lt⟩;simpa using this
def fl (fx:Bool)(s:List UInt8)(n:Nat):UInt8:=atC fx s n &&& 223
def fm (fx:Bool)(s:List UInt8)(n:Nat):List UInt8:=if atC fx s (atE fx s n)=45 then [45]else []
def expStart (fx:Bool)(s:List UInt8)(n:Nat):Nat:=if atC fx s (atE fx s n)=43\/atC fx s (atE fx s n)=45 then atE fx s (atE fx s n)else atE fx s n
def cH (fx:Bool)(s:List UInt8)(n:Nat):List UInt8:=fc fx bL s (expStart fx s n)
def cz (fx:Bool)(s:List UInt8)(n:Nat):UInt8×List UInt8×Nat×Bool:=
 if fl fx s n=69\/fl fx s n=68 then(fl fx s n,fm fx s n++cH fx s n,runE fx bL s (expStart fx s n),!decide (cH fx s n=[]))else(0,[],n,false)
def agR (h:Sc μ l i s fx r)(hs:s.length<=200000){n:Nat}(hn:n<=s.length):
 (ev E).call 208 [LV.cv (CV.ref l i 0),bv (n:Int)] μ=some (.ret (.ltup [LV.int .u8 ((cz fx s n).1.toNat:Int),LV.str (cz fx s n).2.1,bv ((cz fx s n).2.2.1:Nat),LV.bool (cz fx s n).2.2.2]) μ):=by
 have e69: ∀c:UInt8,decide ((c.toNat:Int)=69)=decide (c=69):=λc=>eZ (k:=69) bu;have e68: ∀c:UInt8,decide ((c.toNat:Int)=68)=decide (c=68):=λc=>eZ (k:=68) bu;have e43: ∀c:UInt8,decide ((c.toNat:Int)=43)=decide (c=43):=λc=>eZ (k:=43) bu;have e45: ∀c:UInt8,decide ((c.toNat:Int)=45)=decide (c=45):=λc=>eZ (k:=45) bu;have hle:=lW (fx:=fx) hn;have hle2:=lW (fx:=fx) hle;have hst:expStart fx s n<=s.length:=by unfold expStart;split<;>assumption
 have hr:=oK (fx:=fx) (s:=s) (p:=bL) (n:=expStart fx s n);have hG: ∀(sg:List UInt8),sg.length<=1->tM (ev E) l i ((fl fx s n).toNat:Int) (expStart fx s n:Nat) sg μ=some (ym ((fl fx s n).toNat:Int) (sg++cH fx s n) (runE fx bL s (expStart fx s n):Nat) (!decide (cH fx s n=[])) μ):=by intro sg hsg;refine ck ?_;rw[aal,w6 h bu (λc=>sc) hst];simp only[bQ];rw[dV bu];rfl
 have hG5:Lm (ev E) l i ((fl fx s n).toNat:Int) (atE fx s n:Nat) μ=some (AJ ((fl fx s n).toNat:Int) (fm fx s n++cH fx s n) (runE fx bL s (expStart fx s n):Nat) (!decide (cH fx s n=[])) μ):=by
  refine ck ?_;rw[acL,mY h bu hle];simp only[bQ,e43,e45];by_cases h1:atC fx s (atE fx s n)=43
  ·have hx:expStart fx s n=atE fx s (atE fx s n):=by simp[expStart,h1]
   have hg:fm fx s n=[]:=by simp[fm,h1]
   have:=hG [] bE;rw[hx]at this;simp only[h1,iB,bQ,hg];have h2:decide ((43:UInt8)=45)=false:=cf;rw[h2,bI,this,bx,uI,hx]
  ·by_cases h2:atC fx s (atE fx s n)=45
   ·have hx:expStart fx s n=atE fx s (atE fx s n):=by simp[expStart,h2]
    have hg:fm fx s n=[45]:=by simp[fm,h2]
    have:=hG [45] bE;rw[hx]at this;have h3:decide ((45:UInt8)=43)=false:=cf;simp only[h2,h3,iB,bQ,hg];rw[this,bx,uI,hx]
   ·have hx:expStart fx s n=atE fx s n:=by simp[expStart,h1,h2]
    have hg:fm fx s n=[]:=by simp[fm,h2]
    have:=hG [] bE;rw[hx]at this;simp only[h1,h2,oy,bQ,hg];rw[this,bx,uI,hx]
 refine bW ?_;rw[ajm,mY h bu hn];simp only[bQ,aeO];have hL:atC fx s n &&& 223=fl fx s n:=rfl;rw[hL];simp only[e69,e68];by_cases h1:fl fx s n=69
 ·have:cz fx s n=(fl fx s n,fm fx s n++cH fx s n,runE fx bL s (expStart fx s n),!decide (cH fx s n=[])):=by simp[cz,h1]
  rw[this,hG5];simp only[h1,iB,bQ];rw[<-h1,DU]
 ·by_cases h2:fl fx s n=68
  ·have:cz fx s n=(fl fx s n,fm fx s n++cH fx s n,runE fx bL s (expStart fx s n),!decide (cH fx s n=[])):=by simp[cz,h2]
   rw[this,hG5];have h3:decide ((68:UInt8)=69)=false:=cf;simp only[h2,h3,iB,bQ];rw[<-h2,DU]
  ·have:cz fx s n=(0,[],n,false):=by simp[cz,h1,h2]
   rw[this];simp only[h1,h2,oy,bQ];rfl
structure Tok where
 kind:Int
 type:Int
 text:List UInt8
 deriving DecidableEq
def Tok.cv (t:Tok):CV:=CV.agg [bF t.kind,bF t.type,CV.str t.text]
def mD (e:Int):CV:=CV.iface 191 (CV.agg [bF e])
def p5 {e:Int}:(ev E).call 191 [bv e] μ=some (.panic (mD e) μ):=bW (by rw[ajd];rfl)
def dx (s:List UInt8):List UInt8:=if s=[]then [48]else s
def gB (s:List UInt8):List UInt8:=Lib.trimLeftB s 48
def ei (s:List UInt8):List UInt8:=Lib.trimRightB s 48
def aeZ {t:List UInt8}:(ev E).call 212 [LV.str t,LV.bool true] μ=some (.ret (LV.str (dx (gB t))) μ):=by refine bW ?_;rw[aeb,Zx cf];simp only[bQ,dx,gB];by_cases h:Lib.trimLeftB t 48=[]<;>simp[h]
def ae0 {t:List UInt8}(ht:t.length<=1000000):(ev E).call 212 [LV.str t,LV.bool false] μ=some (.ret (LV.str (dx (ei t))) μ):=by refine bW ?_;rw[aeb,Zy cf ht];simp only[bQ,dx,ei];by_cases h:Lib.trimRightB t 48=[]<;>simp[h]
def Kr (t:List UInt8):(gB t).length<=t.length:=by unfold gB Lib.trimLeftB;exact(List.dropWhile_suffix _).length_le
def Ks (t:List UInt8):(ei t).length<=t.length:=by unfold ei Lib.trimRightB;rw[List.length_reverse];exact iN (List.dropWhile_suffix _).length_le bE
def agT {a b:List UInt8}(ha:a.length<=1000000)(hb:b.length<=1000000):(ev E).call 210 [LV.str a,LV.str b] μ=some (.ret (bv ((gB a).length+(ei b).length:Nat)) μ):=by refine bW ?_;rw[ajo,Zx cf];simp only[bQ];rw[Zy cf hb];simp only[bQ];have h1:=Kr a;have h2:=Ks b;have e1:Lib.trimLeftB a 48=gB a:=rfl;have e2:Lib.trimRightB b 48=ei b:=rfl;rw[e1,e2,el bu bu];simp
def eD (s:List UInt8):Int:=match Lib.atoiAll s with| .ok v=>v| .range=>Lib.atoiSat s|_=>0
def oz (s:List UInt8):Bool:=match Lib.atoiAll s with| .ok _=>true|_=>false
def KP (s:List UInt8):CV:=match oz s with|true=> .v .nilIface|false=> .iface 201 .undef
def yF (s:List UInt8):Gc 201 s= .ltup [bv (eD s),.cv (KP s)]:=by unfold Gc KP eD oz;cases Lib.atoiAll s<;>rfl
def Wz (s:List UInt8):KX (.cv (KP s))=some (oz s):=by unfold KP;cases oz s<;>rfl
def nZ (s:List UInt8): -9223372036854775808<=eD s/\eD s<=9223372036854775807:=by
 unfold eD;split
 ·rename_i v h;unfold Lib.atoiAll at h;cases s with
  |nil=>cases h|cons c r=>
   simp only at h;split at h
   ·cases h
   ·cases h
   ·rename_i u hu;split at h
    ·cases h
    ·rename_i h1;split at h
     ·cases h
     ·rename_i h2;injection h with h;subst h;split<;>omega
 ·unfold Lib.atoiSat;split<;>omega
 ·omega
theorem o5 {c:CV}:cW (.cv c)=some c:=rfl
def ahy (μ:Mu):Except Int Tok->Out
 | .ok t=> .ret (.cv t.cv) μ| .error e=> .panic (mD e) μ
def eK (d:List UInt8):Except Int Tok:=if 10<d.length\/oz d=false\/2147483647<eD d then .error 28 else .ok ⟨1,0,Lib.itoa (eD d)⟩
theorem Pt {n:Nat}{e:Int}:below n (mD e)=true:=rfl
def agS {d:List UInt8}(hd:d.length<=1000000):(ev E).call 209 [LV.str d] μ=some (ahy μ (eK d)):=by
 refine bW ?_;rw[ajn,GM hd,yF];have hr:=nZ d;simp only[bQ,o5,p5,eu,Pt];by_cases h1:10<d.length
 ·have e1:decide ((10:Int)<(d.length:Int))=true:=b7;have e2:eK d= .error 28:=by simp[eK,h1]
  rw[e1,e2,bH];rfl
 ·have e1:decide ((10:Int)<(d.length:Int))=false:=b7;rw[e1,bI,Wz,bx];cases h2:oz d with
  |false=>
   have e2:eK d= .error 28:=by simp[eK,h2]
   rw[e2];rfl
  |true=>
   simp only[bQ];by_cases h3:2147483647<eD d
   ·have e2:eK d= .error 28:=by simp[eK,h3]
    have e3:decide (2147483647<eD d)=true:=by simp[h3]
    rw[e2,e3];rfl
   ·have e2:eK d= .ok ⟨1,0,Lib.itoa (eD d)⟩:=by simp[eK,h1,h2,h3]
    have e3:decide (2147483647<eD d)=false:=by simp[h3]
    rw[e2,e3,bI,Zs hr.1 hr.2];rfl
end
def Ca (μ:Mu):Except Int (Tok×Nat)->Out
 | .ok q=> .ret (.ltup [.cv q.1.cv,bv (q.2:Int)]) μ| .error e=> .panic (mD e) μ
def iY (whole part:List UInt8):List UInt8:=dx (gB whole)++[46]++dx (ei part)
def jq (digits:List UInt8)(ok:Bool):List UInt8:=if ok then Lib.itoa (eD digits)else [48]
def gn (text pow:List UInt8)(letter:UInt8)(ok:Bool):Tok:=
 if letter=68/\ok=true then⟨1,2,text++[68]++pow⟩else if pow=[48]then⟨1,1,text⟩else⟨1,1,text++([69]++pow)⟩
def pe (whole part digits:List UInt8)(ok:Bool):Bool:=decide (30<(gB whole).length+(ei part).length)||(decide (3<(Lib.trimPrefix digits [45]).length)&&ok)
def fG (whole part digits:List UInt8)(letter:UInt8)(ok:Bool)(e:Nat):Except Int (Tok×Nat):=
 if pe whole part digits ok then .error 7 else .ok (gn (iY whole part) (jq digits ok) letter ok,e)
def dU (fx:Bool)(s:List UInt8)(n:Nat):List UInt8:=fc fx bL s n
def e8 (fx:Bool)(s:List UInt8)(n:Nat):Bool:=decide (atC fx s (runE fx bL s n)=46)&&(!(dE fx s (runE fx bL s n)).2.2||decide (dU fx s n=[]))
def gl (fx:Bool)(s:List UInt8)(n:Nat):List UInt8:=if e8 fx s n then fc fx bL s (atE fx s (runE fx bL s n))else []
def numEnd (fx:Bool)(s:List UInt8)(n:Nat):Nat:=if e8 fx s n then runE fx bL s (atE fx s (runE fx bL s n))else runE fx bL s n
def fa (fx:Bool)(s:List UInt8)(n:Nat):Except Int (Tok×Nat):=
 let q:=cz fx s (numEnd fx s n)
 if !e8 fx s n&& !q.2.2.2 then(match eK (dU fx s n)with| .ok t=> .ok (t,numEnd fx s n)| .error e=> .error e)
 else fG (dU fx s n) (gl fx s n) q.2.1 q.1 q.2.2.2 (if q.2.2.2 then q.2.2.1 else numEnd fx s n)
def stT (μ:Mu)(xr:Int->Int->Int->List UInt8->Mu->St)(xp:CV->Mu->St):Except Int (Tok×Nat)->St
 | .ok q=>xr (q.2:Int) q.1.kind q.1.type q.1.text μ| .error e=>xp (mD e) μ
section
variable {μ:Mu}{l i:Nat}{s:List UInt8}{fx:Bool}{r:List LV}
def ajC {e:Nat}{text pow:List UInt8}{a b:Int}{c:List UInt8}(h:text.length+pow.length<=1000000):
 HR (ev E) (e:Int) text pow a b c μ=some (td (e:Int) 1 1 (if pow=[48]then text else text++([69]++pow)) μ):=by
 refine ck ?_;rw[aai];by_cases hp:pow=[48]
 ·have:decide (pow=[48])=true:=by simp[hp]
  rw[this,bC hp];rfl
 ·have:decide (pow=[48])=false:=by simp[hp]
  rw[this,bB hp];simp only[bQ];rw[dV b7,dV b7];simp only[bQ]
def ael {e:Nat}{letter:UInt8}{ok:Bool}{text pow:List UInt8}{a b:Int}{c:List UInt8}(h:text.length+pow.length<=1000000):
 HQ (ev E) (e:Int) (letter.toNat:Int) ok text pow a b c μ=some (tc (e:Int) (gn text pow letter ok).kind (gn text pow letter ok).type (gn text pow letter ok).text μ):=by
 have e68:decide ((letter.toNat:Int)=68)=decide (letter=68):=eZ (k:=68) bu;refine ck ?_;rw[aah,e68,ajC h,bx,Ol];by_cases hl:letter=68
 ·cases ok with
  |true=>
   have:gn text pow letter true=⟨1,2,text++[68]++pow⟩:=by simp[gn,hl]
   rw[this];simp only[hl,iB,bQ];rw[dV b7,dV b7];simp only[bQ]
  |false=>simp only[hl,iB,bQ];by_cases hp:pow=[48]<;>simp[gn,hp]
 ·simp only[hl,oy,bQ];by_cases hp:pow=[48]<;>simp[gn,hp,hl]
def nI (t:List UInt8):(dx t).length<=t.length+1:=by unfold dx;split<;>simp
def ajB {e:Nat}{letter:UInt8}{ok:Bool}{whole part digits:List UInt8}{a b:Int}{c:List UInt8}(h1:whole.length<=200000)(h2:part.length<=200000)(h3:digits.length<=200001)(h4:(jq digits ok).length<=100):
 wz (ev E) (e:Int) whole part (letter.toNat:Int) digits ok a b c μ=some (yj (e:Int) (gn (iY whole part) (jq digits ok) letter ok).kind (gn (iY whole part) (jq digits ok) letter ok).type (gn (iY whole part) (jq digits ok) letter ok).text μ):=by
 refine ck ?_;have k1:=Kr whole;have k2:=Ks part;have k3:=nI (gB whole);have k4:=nI (ei part);rw[aag,aeZ];simp only[bQ];rw[dV b7];simp only[bQ];rw[ae0 bu];simp only[bQ];rw[dV b7];have ht:dx (gB whole)++[46]++dx (ei part)=iY whole part:=rfl;have hl:(iY whole part).length<=400003:=by rw[<-ht];simp;omega
 cases ok with|true=>have hr:=nZ digits;simp only[bQ,GM (show digits.length<=1000000 by omega),yF,o5,Zs hr.1 hr.2];have hp:Lib.itoa (eD digits)=jq digits true:=rfl;rw[hp,ht,ael bu,bx,B3]|false=>simp only[bQ];have hp:([48]:List UInt8)=jq digits false:=rfl;rw[hp,ht,ael bu,bx,B3]
def IQ (a b:List UInt8):(Lib.trimPrefix a b).length<=a.length:=Lib.trimPrefix_le a b
def aek {e:Nat}{letter:UInt8}{ok:Bool}{whole part digits:List UInt8}{a b:Int}{c:List UInt8}(h1:whole.length<=200000)(h2:part.length<=200000)(h3:digits.length<=200001)(h4:(jq digits ok).length<=100):
 HP (ev E) (e:Int) whole part (letter.toNat:Int) digits ok a b c μ=some (stT μ yi nk (fG whole part digits letter ok e)):=by
 refine ck ?_;rw[aaf,agT bu bu];simp only[bQ,p5,eu,agU];have k0:=IQ digits [45];have e30:decide ((30:Int)<(((gB whole).length+(ei part).length:Nat):Int))=decide (30<(gB whole).length+(ei part).length):=b7;have e3:decide ((3:Int)<((Lib.trimPrefix digits [45]).length:Int))=decide (3<(Lib.trimPrefix digits [45]).length):=b7;rw[e30,e3,ajB h1 h2 h3 h4,bx,Ok];unfold fG pe;cases decide (30<(gB whole).length+(ei part).length)<;>cases decide (3<(Lib.trimPrefix digits [45]).length)<;>cases ok<;>rfl
def ajA {e x:Nat}{letter:UInt8}{ok:Bool}{whole part digits:List UInt8}{a b:Int}{c:List UInt8}(h1:whole.length<=200000)(h2:part.length<=200000)(h3:digits.length<=200001)(h4:(jq digits ok).length<=100):
 HO (ev E) (e:Int) whole part (letter.toNat:Int) digits (x:Int) ok a b c μ=some (stT μ s8 s9 (fG whole part digits letter ok (if ok then x else e))):=by
 refine ck ?_;rw[aae];cases ok with
 |true=>
  rw[bH,aek h1 h2 h3 h4,bx];simp only[cQ];cases fG whole part digits letter true x with|ok q=>exact B1 _ _ _ _ _ _|error e=>exact B2 _ _ _
 |false=>
  rw[bI,aek h1 h2 h3 h4,bx];simp only[d6,du];cases fG whole part digits letter false e with|ok q=>exact B1 _ _ _ _ _ _|error e=>exact B2 _ _ _
theorem iw {β:Type}{t:Tok}{k:Int->Int->List UInt8->Option β}:iy (.cv t.cv) k=k t.kind t.type t.text:=rfl
def alg (h:Sc μ l i s fx r)(hs:s.length<=200000){whole part:List UInt8}{dot:Bool}{n:Nat}(hn:n<=s.length)(h1:whole.length<=200000)(h2:part.length<=200000)(h3:(cz fx s n).2.1.length<=200001)(h4:(jq (cz fx s n).2.1 (cz fx s n).2.2.2).length<=100):
 wA (ev E) l i (n:Int) whole part dot 0 0 [] μ=some (stT μ oO mI (if !dot&& !(cz fx s n).2.2.2 then(match eK whole with| .ok t=> .ok (t,n)| .error e=> .error e)else fG whole part (cz fx s n).2.1 (cz fx s n).1 (cz fx s n).2.2.2 (if(cz fx s n).2.2.2 then(cz fx s n).2.2.1 else n))):=by
 refine ck ?_;rw[acC,agR h hs hn];simp only[bQ];rw[ajA h1 h2 h3 h4,bx,agS bu];have hreal:kS (ev E) f9 [] [(4,0),(5,0)] (stT μ s8 s9 (fG whole part (cz fx s n).2.1 (cz fx s n).1 (cz fx s n).2.2.2 (if(cz fx s n).2.2.2 then(cz fx s n).2.2.1 else n)))=
  some (stT μ oO mI (fG whole part (cz fx s n).2.1 (cz fx s n).1 (cz fx s n).2.2.2 (if(cz fx s n).2.2.2 then(cz fx s n).2.2.1 else n))):=by
  cases fG whole part (cz fx s n).2.1 (cz fx s n).1 (cz fx s n).2.2.2 (if(cz fx s n).2.2.2 then(cz fx s n).2.2.1 else n)with|ok q=>exact Oi _ _ _ _ _ _|error e=>exact Oj _ _ _
 rw[hreal];cases dot with
 |true=>rfl|false=>
  cases (cz fx s n).2.2.2 with
  |true=>rfl|false=>
   simp only[bQ,j9,cQ];cases eK whole with|ok t=>simp only[ahy,bV,iw];rfl|error e=>rfl
def aaO (digits:List UInt8)(ok:Bool):(jq digits ok).length<=100:=by
 have hr:=nZ digits;have:=Lib.itoa_length_le _ hr.1 hr.2;unfold jq;split
 ·omega
 ·simp
def Zq (h:Sc μ l i s fx r)(hs:s.length<=200000){n:Nat}(hn:n<=s.length):
 (ev E).call 192 [LV.cv (CV.ref l i 0),bv (n:Int)] μ=some (Ca μ (fa fx s n)):=by
 have e46: ∀c:UInt8,decide ((c.toNat:Int)=46)=decide (c=46):=λc=>eZ (k:=46) bu;have hle:=nJ (fx:=fx) (p:=bL) hn;have hle2:=lW (fx:=fx) hle;have hle3:=nJ (fx:=fx) (p:=bL) hle2;have hr1:=oK (fx:=fx) (s:=s) (p:=bL) (n:=n);have hr2:=oK (fx:=fx) (s:=s) (p:=bL) (n:=atE fx s (runE fx bL s n));have hx: ∀m,(cz fx s m).2.1.length<=200001:=by
  intro m;unfold cz;split
  ·have:=oK (fx:=fx) (s:=s) (p:=bL) (n:=expStart fx s m);simp only[ef,fm,cH];split<;>simp<;>omega
  ·simp
 have fin: ∀q:Except Int (Tok×Nat),kB (ev E) 192 f9 [] (stT μ oO mI q)=some (Ca μ q):=by
  intro q;cases q with|ok q=>exact Qz _ _ _ _ _ _|error e=>simp only[stT];rw[QA];rfl
 have hend:numEnd fx s n<=s.length:=by unfold numEnd;split<;>assumption
 have key: ∀(dot:Bool),e8 fx s n=dot->(opt (wA (ev E) l i (numEnd fx s n:Nat) (dU fx s n) (gl fx s n) dot 0 0 [] μ) (kB (ev E) 192 f9 []))=some (Ca μ (fa fx s n)):=by intro dot hd;rw[alg h hs hend (by unfold dU;omega) (by unfold gl;split<;>first|omega|simp) (hx _) (aaO _ _),bx,fin];unfold fa;rw[hd]
 refine bW ?_;rw[aje,w6 h bu (λc=>sc) hn];simp only[bQ];rw[mY h bu hle];simp only[bQ,e46];have hw:fc fx bL s n=dU fx s n:=rfl;by_cases hc:atC fx s (runE fx bL s n)=46
 ·have hc':decide (atC fx s (runE fx bL s n)=46)=true:=by simp[hc]
  rw[hc',bH,Zr h hs hle];simp only[bQ];rw[w6 h bu (λc=>sc) hle2];simp only[bQ];cases hdo:(dE fx s (runE fx bL s n)).2.2 with
  |false=>
   have hd:e8 fx s n=true:=by simp[e8,hc,hdo]
   have:=key true hd;simp only[numEnd,gl,hd,cQ]at this;simp only[bQ,hw];exact this
  |true=>
   simp only[bQ,hw];by_cases hz:dU fx s n=[]
   ·have hd:e8 fx s n=true:=by simp[e8,hc,hz]
    have:=key true hd;simp only[numEnd,gl,hd,cQ]at this;have h5:decide (dU fx s n=[])=true:=by simp[hz]
    rw[h5,bH];exact this
   ·have hd:e8 fx s n=false:=by simp[e8,hdo,hz]
    have:=key false hd;simp only[numEnd,gl,hd,d6,du]at this;have h5:decide (dU fx s n=[])=false:=by simp[hz]
    rw[h5,bI];exact this
 ·have hc':decide (atC fx s (runE fx bL s n)=46)=false:=by simp[hc]
  have hd:e8 fx s n=false:=by simp[e8,hc]
  have:=key false hd;simp only[numEnd,gl,hd,d6,du]at this;rw[hc',bI,hw];exact this
end
def eI (q:UInt8):List UInt8->Option (List UInt8×Nat)
 |[]=>none|[c]=>if c=q then some ([],1)else none|c::d::r=>if c=q then(if d=q then(eI q r).map (λx=>(q::x.1,x.2+2))else some ([],1))else(eI q (d::r)).map λx=>(c::x.1,x.2+1)
def qU {q c:UInt8}(h:c≠q)(r:List UInt8):eI q (c::r)=(eI q r).map λx=>(c::x.1,x.2+1):=by
 cases r with|nil=>simp[eI,h]|cons d r=>rw[eI,bB h]
def pb {q:UInt8}(r:List UInt8):eI q (q::q::r)=(eI q r).map λx=>(q::x.1,x.2+2):=by rw[eI,bC rfl,bC rfl]
def o9 {q:UInt8}{r:List UInt8}(h: ∀d t,r=d::t->d≠q):eI q (q::r)=some ([],1):=by
 cases r with|nil=>simp[eI]|cons d r=>rw[eI,bC rfl,bB (h d r rfl)]
def J9 {q:UInt8}: ∀(a l:List UInt8),(∀b∈a,b≠q)->eI q (a++l)=(eI q l).map λx=>(a++x.1,a.length+x.2)
 |[],l,_=>by simp only[eR,fL,fZ];cases eI q l<;>rfl|c::a,l,h=>by
  rw[eH,qU (h c j7),J9 a l (λb hb=>h b (fw _ hb))];cases eI q l with|none=>rfl|some x=>simp only[gN,eH,dz];congr 2;omega
def Hi {q:UInt8}: ∀(l:List UInt8),(∀b∈l,b≠q)->eI q l=none
 |[],_=>rfl|c::r,h=>by rw[qU (h c j7),Hi r (λb hb=>h b (fw _ hb))];rfl
def vP {q:UInt8}: ∀(n:Nat) (l:List UInt8),l.length<=n-> ∀t k,eI q l=some (t,k)->1<=k/\k<=l.length/\t.length+1<=k
 |0,l,hn,t,k,h=>by have:l=[]:=iK bu;subst this;cases h|n+1,[],hn,t,k,h=>by cases h|n+1,c::r,hn,t,k,h=>by
  simp only[dz]at hn |-;by_cases hc:c=q
  ·subst hc;cases r with
   |nil=>rw[o9 (by intro d t h;cases h)]at h;cases h;simp|cons d r=>
    by_cases hd:d=c
    ·subst hd;rw[pb]at h;cases hq:eI d r with|none=>rw[hq]at h;cases h|some x=>rw[hq]at h;cases h;simp only[dz]at hn |-;have:=vP n r bu x.1 x.2 hq;omega
    ·rw[o9 (by intro e t h;cases h;exact hd)]at h;cases h;simp
  ·rw[qU hc]at h;cases hq:eI q r with|none=>rw[hq]at h;cases h|some x=>rw[hq]at h;cases h;have:=vP n r bu x.1 x.2 hq;simp only[dz];omega
def rm (l:List UInt8)(q:UInt8):(Lib.index l [q]= -1/\ ∀b∈l,b≠q)\/(∃a r,l=a++q::r/\(∀b∈a,b≠q)/\Lib.index l [q]=(a.length:Int)):=by
 induction l with
 |nil=>exact Or.inl ⟨rfl,bE⟩|cons c l ih=>
  by_cases hc:c=q
  ·subst hc;refine Or.inr ⟨[],l,rfl,bE,?_⟩;simp[Lib.index,List.isPrefixOf]
  ·have hp:([q].isPrefixOf (c::l))=false:=by
    have:(q == c)=false:=by simpa using λh:q=c=>hc h.symm
    simp[List.isPrefixOf,this]
   rcases ih with⟨h1,h2⟩|⟨a,r,h1,h2,h3⟩
   ·refine Or.inl ⟨?_,?_⟩
    ·simp only[Lib.index,hp,h1];rfl
    ·intro b hb;rcases ed.1 hb with rfl|hb
     ·exact hc
     ·exact h2 b hb
   ·refine Or.inr ⟨c::a,r,by rw[h1];rfl,?_,?_⟩
    ·intro b hb;rcases ed.1 hb with rfl|hb
     ·exact hc
     ·exact h2 b hb
    ·have hne:(Lib.index l [q] == -1)=false:=by rw[h3];simp;try omega
     simp only[Lib.index,hp,hne,h3];simp
def dbl:List UInt8->List UInt8
 |[]=>[]|c::r=>if c=39 then 39::39::dbl r else c::dbl r
def oX: ∀(a l:List UInt8),(∀b∈a,b≠39)->dbl (a++l)=a++dbl l
 |[],l,_=>rfl|c::a,l,h=>by rw[eH,dbl,bB (h c j7),oX a l (λb hb=>h b (fw _ hb))];rfl
def CU: ∀(l:List UInt8),(dbl l).length<=2*l.length
 |[]=>ct _|c::r=>by have:=CU r;unfold dbl;split<;>simp only[dz]<;>omega
def Cg: ∀(k:Nat) (l:List UInt8),Lib.count l [39]<=k->Lib.replaceK [39] [39,39] k l=dbl l
 |0,l,h=>by
  rcases rm l 39 with⟨h1,h2⟩|⟨a,r,h1,h2,h3⟩
  ·have:=oX l [] h2;simp only[fy,dbl]at this;rw[this];rfl
  ·exfalso;have:=Lib.count_hit (sub:=[39]) bE h3;omega
 |k+1,l,h=>by
  rcases rm l 39 with⟨h1,h2⟩|⟨a,r,h1,h2,h3⟩
  ·have:=oX l [] h2;simp only[fy,dbl]at this;rw[this,Lib.replaceK,h1];rfl
  ·have hc:=Lib.count_hit (sub:=[39]) bE h3;rw[Lib.replaceK_hit _ _ _ _ _ h3];have hd:l.drop (a.length+([39]:List UInt8).length)=r:=by rw[h1,List.length_singleton,<-ib,Dr rfl];rfl
   have ht:l.take a.length=a:=by rw[h1,xF rfl]
   have hc':Lib.count l [39]=1+Lib.count r [39]:=by rw[hc,hd]
   rw[hd,ht,Cg k r bu,h1,oX a _ h2,dbl,bC rfl];simp
def IK (l:List UInt8):Lib.replaceAll l [39] [39,39]=dbl l:=by unfold Lib.replaceAll Lib.replace Lib.replaceNum;rw[bB cf,bC (Or.inl cf)];exact Cg _ _ (ct _)
def Oz:LV:= .cv (.v (.slice none 0 0))
def bS (l:List Tok):List CV:=l.map Tok.cv
def dR (l:List Nat):List CV:=l.map λ(n:Nat)=>bF (n:Int)
def tL (l:List Tok):LV:=if l=[]then Oz else .osl (bS l)
def kL (l:List Nat):LV:=if l=[]then Oz else .osl (dR l)
def scO (s:List UInt8)(fx:Bool)(out:List Tok)(kept:List Nat):Ob:= .cells [LV.str s,LV.bool fx,tL out,kL kept]
def scM (b:Mu)(s:List UInt8)(fx:Bool)(out:List Tok)(kept:List Nat):Mu:=b++[[scO s fx out kept]]
def xo (b:Mu)(o:Ob):ce (b++[[o]]) b.length 0=o:=by simp[ce]
def xq (b:Mu)(o o':Ob):cx (b++[[o]]) b.length 0 o'=b++[[o']]:=by simp[cx]
section
variable {b:Mu}{s:List UInt8}{fx:Bool}{out:List Tok}{kept:List Nat}
def rz:Sc (scM b s fx out kept) b.length 0 s fx [tL out,kL kept]:=xo _ _
def aaH:iJ (tL out)=some (bS out):=by unfold tL;split<;>rename_i h<;>(try subst h)<;>rfl
def aaG:iJ (kL kept)=some (dR kept):=by unfold kL;split<;>rename_i h<;>(try subst h)<;>rfl
def WY:cj (strip (tL out))=some (bS out):=by unfold tL;split<;>rename_i h<;>(try subst h)<;>rfl
def ajG {a b c d:LV}:jl E.P 55 (.cells [a,b,c,d]) 3=some (d,.cells [a,b,c,strip d]):=bw
def ahW {a b c d:LV}{l:List CV}:dv E.P 55 (.cells [a,b,c,d]) 3 (LV.osl l)=some (.cells [a,b,c,.osl l]):=bw
def ajF {a b c d:LV}:jl E.P 35 (.cells [a,b,c,d]) 2=some (c,.cells [a,b,strip c,d]):=bw
def ahV {a b c d:LV}{l:List CV}:dv E.P 35 (.cells [a,b,c,d]) 2 (LV.osl l)=some (.cells [a,b,.osl l,d]):=bw
def aej {a b c d:LV}:cw E.P 35 (.cells [a,b,c,d]) 2=some (strip c):=bw
def yD: ∀(l:List Nat),gj 1 (dR l)=true
 |[]=>rfl|a::l=>by have e:dR (a::l)=bF (a:Int)::dR l:=rfl;rw[e];simp only[gj];have:fJ 1 (bF (a:Int))=true:=rfl;rw[this];exact yD l
def ti: ∀(l:List Tok),gj 3 (bS l)=true
 |[]=>rfl|a::l=>by have e:bS (a::l)=a.cv::bS l:=rfl;rw[e];simp only[gj];have:fJ 3 a.cv=true:=rfl;rw[this];exact ti l
def vX {n:Nat}: ∀(l:List Nat),dp n (dR l)=true
 |[]=>rfl|a::l=>by have e:dR (a::l)=bF (a:Int)::dR l:=rfl;rw[e];simp only[dp];have:below n (bF (a:Int))=true:=rfl;rw[this];exact vX l
def vY {n:Nat}: ∀(l:List Tok),dp n (bS l)=true
 |[]=>rfl|a::l=>by have e:bS (a::l)=a.cv::bS l:=rfl;rw[e];simp only[dp];have:below n a.cv=true:=rfl;rw[this];exact vY l
def U3 {a c:List Nat}(h:a.length+c.length<=1000000):eq 1 (dR a) (dR c)=true:=by unfold eq;rw[yD,yD];simp[small,dR];omega
def F9 {a c:List Tok}(h:a.length+c.length<=1000000):eq 3 (bS a) (bS c)=true:=by unfold eq;rw[ti,ti];simp[small,bS];omega
def agn {n:Nat}:LV.osl (dR kept++[bF (n:Int)])=kL (kept++[n]):=by unfold kL;rw[bB bE];simp[dR]
def ahM {t:Tok}:LV.osl (bS out++[t.cv])=tL (out++[t]):=by unfold tL;rw[bB bE];simp[bS]
def ae9 (hs:s.length<=200000): ∀(k a e:Nat) (kept:List Nat),a+k=e->e<=300000->kept.length+k<=600000->
 LF (ev E) b.length 0 (e:Int) (a:Int) (scM b s fx out kept)=some (Ba (scM b s fx out (kept++List.range' a k))):=by
 intro k
 induction k with
 |zero=>intro a e kept hk he hq;refine cC ?_;rw[NP];have h1:decide ((a:Int)<(e:Int))=false:=b7;rw[h1,bI];simp|succ k ih=>
  intro a e kept hk he hq;refine cC ?_;rw[NP];have h1:decide ((a:Int)<(e:Int))=true:=b7;rw[h1,bH];unfold scM;rw[xo];unfold scO;rw[ajG,bx,aaG,bx];have ha:[bF (a:Int)]=dR [a]:=rfl;rw[ha,U3 b7,cK];have hb:dp (b.length+1) (dR kept++dR [a])=true:=by
   have:dR kept++dR [a]=dR (kept++[a]):=by simp[dR]
   rw[this];exact vX _
  rw[hb,cK,xq,xo,ahW,bx,xq,el bu bu];have:=ih (a+1) e (kept++[a]) bu he b7;unfold scM scO at this;rw[<-ha,agn];have e1:((a+1:Nat):Int)=(a:Int)+1:=bu;rw[<-e1,this];simp[List.range'_succ]
def Zt (hs:s.length<=200000){a e:Nat}(h:a<=e)(he:e<=300000)(hk:kept.length+(e-a)<=600000):
 (ev E).call 205 [LV.cv (CV.ref b.length 0 0),bv (a:Int),bv (e:Int)] (scM b s fx out kept)=some (.ret (.ltup []) (scM b s fx out (kept++List.range' a (e-a)))):=by
 refine bW ?_;rw[ajj,ae9 hs (e-a) a e kept bu he hk,bx,Rs]
def dZ (t:List UInt8):List UInt8:=[39]++dbl t++[39]
def Zu {t:List UInt8}{μ:Mu}(h:t.length<=200000):(ev E).call 206 [LV.str t] μ=some (.ret (.cv (Tok.cv ⟨1,6,dZ t⟩)) μ):=by refine bW ?_;have hd:=CU t;rw[ajk,agX bu bE bE,bV,dT,bx,IK,dV b7,cK,dV b7,cK];rfl
def ku {α:Type}{l:List α}{a e:Nat}(h1:a<=e)(h2:e<=l.length):gc l (a:Int) (e:Int)=some ((l.drop a).take (e-a)):=by unfold gc;have:(decide ((0:Int)<=(a:Int))&&decide ((a:Int)<=(e:Int))&&decide ((e:Int)<=(l.length:Int)))=true:=b7;rw[this];have e1:((a:Int)).toNat=a:=bu;have e2:((e:Int) -(a:Int)).toNat=e-a:=bu;simp only[e1,e2]
def yM {α:Type}{l:List α}{a:Nat}(h1:a<=l.length):gc l (a:Int) (l.length:Int)=some (l.drop a):=by rw[ku h1 (ct _)];congr 1;apply IZ;simp
noncomputable def MK (b:Mu)(q:Int)(from_ i:Nat)(t:List UInt8)(μ:Mu):Option (List UInt8×Nat)->St
 |none=>vA (mD 7) μ|some (x,k)=>A9 b.length 0 ((i+k:Nat):Int) (from_:Int) (t++x) 0 0 [] μ
def Kz {c:UInt8}(l:List UInt8):Lib.hasPrefix l [c]=(match l with|[]=>false|d::_=>decide (d=c)):=by
 cases l with
 |nil=>simp[Lib.hasPrefix]|cons d r=>
  by_cases h:d=c
  ·subst h;simp[Lib.hasPrefix,List.isPrefixOf]
  ·have:(c == d)=false:=by simpa using λe:c=d=>h e.symm
   simp[Lib.hasPrefix,List.isPrefixOf,h,this]
noncomputable def E9 (b:Mu)(i:Int)(q:UInt8)(from_:Int)(t:List UInt8)(μ:Mu):List UInt8->St
 |[]=>vk b.length 0 i [q] from_ t 0 0 [] μ|d::_=>if d=q then AC b.length 0 i [q] from_ (t++[q]) 0 0 [] μ else vk b.length 0 i [q] from_ t 0 0 [] μ
def ae8 (hs:s.length<=200000){q:UInt8}{from_:Nat}: ∀(k i:Nat) (t:List UInt8),s.length-i<=k->i<=s.length->t.length<=i->
 LE (ev E) b.length 0 (i:Int) [q] (from_:Int) t 0 0 [] (scM b s fx out kept)=some (MK b 0 from_ i t (scM b s fx out kept) (eI q (s.drop i))):=by
 intro k
 induction k with
 |zero=>intro i t hk hi ht;refine cC ?_;have h:=rz (b:=b) (s:=s) (fx:=fx) (out:=out) (kept:=kept);have hd:s.drop i=[]:=dS bu;rw[NO,h,kO,gA,bx,dT,bx,yM hi,bx,hd,Zv bE];simp only[bQ];have hx:Lib.index [] [q]= -1:=rfl;have hx2:decide ((-1:Int)<0)=true:=cf;rw[hx,hx2,bH,p5,eu];rfl|succ k ih=>
  intro i t hk hi ht;refine cC ?_;have h:=rz (b:=b) (s:=s) (fx:=fx) (out:=out) (kept:=kept);rw[NO,h,kO,gA,bx,dT,bx,yM hi,bx,Zv b7];simp only[bQ];rcases rm (s.drop i) q with⟨h1,h2⟩|⟨a,r,h1,h2,h3⟩
  ·have hx2:decide ((-1:Int)<0)=true:=cf;rw[h1,hx2,bH,p5,eu,Hi _ h2];rfl
  ·have hx2:decide ((a.length:Int)<0)=false:=bE;have hlen:a.length+1+r.length=s.length-i:=by
    have:(s.drop i).length=(a++q::r).length:=by rw[h1]
    simp only[fY,ef,dz]at this;omega
   have hr:s.drop (i+(a.length+1))=r:=by rw[<-ib,h1];have:a++q::r=(a++[q])++r:=bE;rw[this,Dr bE]
   have hta:(s.drop i).take a.length=a:=by rw[h1,xF rfl]
   rw[h3,hx2,bI];have hG:Lh (ev E) b.length 0 (i:Int) [q] (from_:Int) t (a.length:Int) 0 0 [] (scM b s fx out kept)=
    some (E9 b ((i+(a.length+1):Nat):Int) q (from_:Int) (t++a) (scM b s fx out kept) r):=by
    refine ck ?_;have w1:IntKind.wrap .i64 ((i:Int)+(a.length:Int))=((i+a.length:Nat):Int):=by rw[el bu bu];omega
    have w2:IntKind.wrap .i64 ((a.length:Int)+1)=((a.length+1:Nat):Int):=by rw[el bu bu];omega
    have w3:IntKind.wrap .i64 ((i:Int)+((a.length+1:Nat):Int))=((i+(a.length+1):Nat):Int):=by rw[el bu bu];omega
    rw[acE,h,kO,gA,w1,w2,w3];simp only[bx,dT];rw[ku bu bu,bx];have e2:i+a.length-i=a.length:=bu;rw[e2,hta,dV bu,cK,yM bu,bx,hr,agV,bV,bX,bx,Kz];have hsm:small ((t++a).length+[q].length)=true:=dV b7;cases r with
    |nil=>simp only[c8,bH,E9]|cons d r'=>
     by_cases hdq:d=q
     ·subst hdq;simp only[iB,cS,bI,E9,cQ];rw[hsm,cK]
     ·simp only[hdq,oy,c8,bH,E9,du]
   rw[hG,bx,h1,J9 a _ h2];cases r with
   |nil=>rw[o9 (by intro d t h;cases h)];simp only[E9];rw[DS];simp[MK]|cons d r'=>
    by_cases hdq:d=q
    ·subst hdq;simp only[E9,cQ];simp only[dz]at hlen;rw[pb,QC,el bu bu];have e1:((i+(a.length+1):Nat):Int)+1=((i+(a.length+2):Nat):Int):=bu;have hr2:s.drop (i+(a.length+2))=r':=by have:i+(a.length+2)=(i+(a.length+1))+1:=bu;rw[this,<-ib,hr];rfl
     rw[e1,ih (i+(a.length+2)) _ bu bu b7,hr2];cases eI d r' with
     |none=>rfl|some x=>
      simp only[MK,gN];congr 2
      ·omega
      ·simp
    ·simp only[E9,hdq,du];rw[o9 (by intro e t h;cases h;exact hdq),DS];simp[MK]
def gd (s:List UInt8)(n:Nat):Except Int (Tok×Nat):=
 match eI ((s[n]?).getD 0) (s.drop (n+1))with
 |none=> .error 7|some (t,k)=>if 60<t.length then .error 8 else .ok (⟨1,6,dZ t⟩,n+1+k)
def IF (b:Mu)(s:List UInt8)(fx:Bool)(out:List Tok)(kept:List Nat):Except Int (Tok×Nat×List Nat)->Out
 | .ok q=> .ret (.ltup [.cv q.1.cv,bv (q.2.1:Int)]) (scM b s fx out (kept++q.2.2))| .error e=> .panic (mD e) (scM b s fx out kept)
def iE (s:List UInt8)(n:Nat):Except Int (Tok×Nat×List Nat):=
 match gd s n with
 | .ok q=> .ok (q.1,q.2,List.range' n (q.2-n))| .error e=> .error e
def agN (hs:s.length<=200000)(hk:kept.length<=200000){n:Nat}(hn:n<s.length):
 (ev E).call 194 [LV.cv (CV.ref b.length 0 0),bv (n:Int)] (scM b s fx out kept)=some (IF b s fx out kept (iE s n)):=by
 refine bW ?_;have h:=rz (b:=b) (s:=s) (fx:=fx) (out:=out) (kept:=kept);rw[ajg,h,kO,gA,bx,dT,bx,el bu bu];have e1:(n:Int)+1=((n+1:Nat):Int):=bu;have e2:n+1-n=1:=bu;have hd:s.drop n=s[n]::s.drop (n+1):=dY hn;rw[e1,ku bu bu,bx,e2,hd];have e3:List.take 1 (s[n]::s.drop (n+1))=[s[n]]:=rfl;rw[e3,ae8 hs s.length (n+1) [] bu bu bE,bx];unfold iE gd;rw[dK hn,ia];cases hq:eI s[n] (s.drop (n+1))with
 |none=>exact Rr _ _ _|some x=>
  obtain⟨t,k⟩:=x;have hl:=vP _ _ (ct _) t k hq;rw[fY]at hl;simp only[MK,eR];rw[Rq];by_cases h60:60<t.length
  ·have:decide ((60:Int)<(t.length:Int))=true:=b7;rw[this,bH,p5,eu,bC h60];rfl
  ·have:decide ((60:Int)<(t.length:Int))=false:=b7;rw[this,bI,bB h60];have hG:HS (ev E) b.length 0 ((n+1+k:Nat):Int) (n:Int) t 0 0 [] (scM b s fx out kept)=some (yk ((n+1+k:Nat):Int) 1 6 (dZ t) (scM b s fx out (kept++List.range' n (n+1+k-n)))):=by refine ck ?_;rw[aaj,Zt hs bu bu bu];simp only[bQ];rw[Zu bu,bV,iw]
   rw[hG,bx,Om];rfl
end
end Go.Abs
namespace Go.Proofs.YtmemoghbijcebaaGreatDoor.Glue
def aeW:laidOutB Tryz.prog=true:=by kernel_rfl
end Go.Proofs.YtmemoghbijcebaaGreatDoor.Glue
namespace Go.Abs.Ga
open Go Go.Proofs
section
variable {P:Program}{t:TypeId}{c:CV}
def abm {ys:List CV}(h:IsL [.int .i64,.int .i64,.str] ys): ∃x:Tok,CV.agg ys=x.cv:=by simp only[IsL,Is]at h;obtain⟨_,_,rfl,⟨a,rfl,_⟩,_,_,rfl,⟨b,rfl,_⟩,_,_,rfl,⟨s,rfl,_⟩,rfl⟩:=h;exact⟨⟨a,b,s⟩,rfl⟩
def is_toks (ht:qH P t=false)(h:if qH P t=true then ∃ys,c= .agg ys/\IsL [.sl true [.int .i64,.int .i64,.str]] ys else IsL [.sl true [.int .i64,.int .i64,.str]] [c]): ∃l:List Tok,LV.cv c=LV.cv (CV.sl (bS l))/\l.length<=maxLen:=by
 simp only[ht,Bool.false_eq_true,if_false]at h;unfold IsL Is at h;obtain⟨y,r,e,⟨xs,rfl,hl,hx⟩,_⟩:=h;injection e with e _;subst e;simp only[if_true]at hx;have: ∀(xs:List CV),(∀x∈xs,∃ys,x=CV.agg ys/\IsL [.int .i64,.int .i64,.str] ys)-> ∃l:List Tok,xs=bS l:=by
  intro xs
  induction xs with
  |nil=>intro _;exact⟨[],rfl⟩|cons a b ih=>intro h;obtain⟨l,rfl⟩:=ih λx hx=>h x (List.mem_cons_of_mem _ hx);obtain⟨ys,rfl,h1⟩:=h a (by simp);obtain⟨x,h2⟩:=abm h1;exact⟨x::l,by rw[h2];rfl⟩
 obtain⟨l,rfl⟩:=this xs hx;exact⟨l,rfl,by simpa[bS]using hl⟩
end
end Go.Abs.Ga
set_option maxRecDepth 100000
namespace Go.Abs
open Go Go.Proofs
section
variable {b:Mu}{s:List UInt8}{fx:Bool}{out:List Tok}{kept:List Nat}
def ajv (ρ:Rho)(a:List CV)(b:List UInt8)(μ:Mu):bJ E ρ 82 [LV.osl a,LV.str b] μ=
 callK (ρ.call 126 [LV.osl a,LV.str b] μ) (λv1 μ2=>opt (bN .i64 v1) λn5=>some (.ret (LV.bool (decide ((0:Int)<=n5))) μ2)) (λv4 μ3=>bD (below (List.length μ3) v4) (some (.panic v4 μ3))):=bw
def ahj (ρ:Rho)(a:List CV)(b:List UInt8)(μ:Mu):bJ E ρ 126 [LV.osl a,LV.str b] μ=bJ E ρ 126 [LV.cv (CV.sl a),LV.str b] μ:=bw
def aeX {l:List (List UInt8)}{x:List UInt8}{μ:Mu}(hl:l.length<=1000000):(ev E).call 126 [LV.osl (dh l),LV.str x] μ=some (.ret (bv (yX x l 0)) μ):=by refine bW ?_;rw[ahj];exact abh hl
def ZA {l:List (List UInt8)}{x:List UInt8}{μ:Mu}(hl:l.length<=1000000):(ev E).call 82 [LV.osl (dh l),LV.str x] μ=some (.ret (LV.bool (l.contains x)) μ):=by refine bW ?_;rw[ajv,aeX hl];simp only[bQ];rw[Fb]
def kX (fx:Bool)(s:List UInt8)(n:Nat):Int:=eD (fc fx bL s n)
def yW (fx:Bool)(s:List UInt8)(n:Nat):UInt8:=atC fx s (runE fx bL s n)
def holE (fx:Bool)(s:List UInt8)(n:Nat):Nat:=atE fx s (runE fx bL s n)
def tv (fx:Bool)(s:List UInt8)(n:Nat):Prop:=(fc fx bL s n).length<=2/\1<=kX fx s n/\kX fx s n<=60/\(yW fx s n=72\/yW fx s n=104)
instance (fx:Bool)(s:List UInt8)(n:Nat):Decidable (tv fx s n):=by unfold tv;infer_instance
def we (fx:Bool)(s:List UInt8)(n:Nat):Except Int (Tok×Nat×List Nat):=
 if s.length<holE fx s n+(kX fx s n).toNat then .error 7
 else .ok (⟨1,6,dZ ((s.drop (holE fx s n)).take (kX fx s n).toNat)⟩,holE fx s n+(kX fx s n).toNat,List.range' (holE fx s n) (kX fx s n).toNat)
def ac0 (b:Mu)(s:List UInt8)(fx:Bool)(out:List Tok)(kept:List Nat):Except Int (Tok×Nat×List Nat)->Out
 | .ok q=> .ret (.ltup [.cv q.1.cv,bv (q.2.1:Int),LV.bool true]) (scM b s fx out (kept++q.2.2))| .error e=> .panic (mD e) (scM b s fx out kept)
def aed:Tok:=⟨0,0,[]⟩
def agM (hs:s.length<=200000)(hk:kept.length<=200000){n:Nat}(hn:n<=s.length):
 (ev E).call 188 [LV.cv (CV.ref b.length 0 0),bv (n:Int)] (scM b s fx out kept)=some (if tv fx s n then ac0 b s fx out kept (we fx s n)else .ret (.ltup [.cv aed.cv,bv (n:Int),LV.bool false]) (scM b s fx out kept)):=by
 have h:=rz (b:=b) (s:=s) (fx:=fx) (out:=out) (kept:=kept);have hr:=oK (fx:=fx) (s:=s) (p:=bL) (n:=n);have hle:=nJ (fx:=fx) (p:=bL) hn;have hE:holE fx s n<=s.length:=lW hle;have e72: ∀c:UInt8,decide ((c.toNat:Int)=72)=decide (c=72):=λc=>eZ (k:=72) bu;have e104: ∀c:UInt8,decide ((c.toNat:Int)=104)=decide (c=104):=λc=>eZ (k:=104) bu;refine bW ?_;rw[aja,w6 h bu (λc=>sc) hn];simp only[bQ];rw[mY h bu hle];simp only[bQ];rw[GM bu,yF];simp only[bQ,o5,e72,e104];have hNd:eD (fc fx bL s n)=kX fx s n:=rfl;have hCd:atC fx s (runE fx bL s n)=yW fx s n:=rfl;have hEd:atE fx s (runE fx bL s n)=holE fx s n:=rfl;rw[hNd,hCd,hEd];by_cases h1:2<(fc fx bL s n).length
 ·have:decide ((2:Int)<((fc fx bL s n).length:Int))=true:=b7;rw[this,bH,bB (by unfold tv;omega)];rfl
 ·have e1:decide ((2:Int)<((fc fx bL s n).length:Int))=false:=b7;rw[e1,bI];by_cases h2:kX fx s n<1
  ·have:decide (kX fx s n<1)=true:=by simp[h2]
   rw[this,bH,bB (by unfold tv;omega)];rfl
  ·have e2:decide (kX fx s n<1)=false:=by simp[h2]
   rw[e2,bI];by_cases h3:60<kX fx s n
   ·have:decide (60<kX fx s n)=true:=by simp[h3]
    rw[this,bH,bB (by unfold tv;omega)];rfl
   ·have e3:decide (60<kX fx s n)=false:=by simp[h3]
    rw[e3,bI];obtain⟨m,hm⟩: ∃m:Nat,kX fx s n=(m:Int):=⟨(kX fx s n).toNat,bu⟩;have hG:FH (ev E) b.length 0 (holE fx s n:Nat) (kX fx s n) 0 0 [] (scM b s fx out kept)=some (match we fx s n with| .ok q=>At (q.2.1:Int) true q.1.kind q.1.type q.1.text (scM b s fx out (kept++q.2.2))| .error e=>Au (mD e) (scM b s fx out kept)):=by
     refine ck ?_;have w1:IntKind.wrap .i64 ((holE fx s n:Int)+(m:Int))=((holE fx s n+m:Nat):Int):=by rw[el bu bu];omega
     have e0:((m:Int)).toNat=m:=bu;unfold we;rw[acx,h,kO,gA,hm,w1,e0];simp only[bQ];by_cases h4:s.length<holE fx s n+m
     ·have:decide ((s.length:Int)<((holE fx s n+m:Nat):Int))=true:=b7;rw[this,bH,p5,eu,bC h4]
     ·have:decide ((s.length:Int)<((holE fx s n+m:Nat):Int))=false:=b7;rw[this,bI,bB h4];have hG8:Ld (ev E) b.length 0 (holE fx s n:Nat) (m:Int) 0 0 [] (scM b s fx out kept)=some (Av ((holE fx s n+m:Nat):Int) true 1 6 (dZ ((s.drop (holE fx s n)).take m)) (scM b s fx out (kept++List.range' (holE fx s n) m))):=by refine ck ?_;have h':=rz (b:=b) (s:=s) (fx:=fx) (out:=out) (kept:=kept++List.range' (holE fx s n) m);have e5:holE fx s n+m-holE fx s n=m:=bu;rw[acy,w1,Zt hs bu bu bu,e5];simp only[bQ];rw[h',kO,gA];simp only[bQ];rw[ku bu bu,bx,e5,Zu b7,bV,iw]
      rw[hG8,bx,Qs]
    have hfin:(opt (FH (ev E) b.length 0 (holE fx s n:Nat) (kX fx s n) 0 0 [] (scM b s fx out kept)) (kB (ev E) 188 ue []))=some (ac0 b s fx out kept (we fx s n)):=by
     rw[hG,bx];cases we fx s n with|ok q=>exact Qq _ _ _ _ _ _ _|error e=>exact Qr _ _ _
    by_cases h5:yW fx s n=72
    ·have:decide (yW fx s n=72)=true:=by simp[h5]
     rw[this,bC ⟨bu,bu,bu,Or.inl h5⟩];exact hfin
    ·have e5:decide (yW fx s n=72)=false:=by simp[h5]
     rw[e5];by_cases h6:yW fx s n=104
     ·have:decide (yW fx s n=104)=true:=by simp[h6]
      rw[this,bC ⟨bu,bu,bu,Or.inr h6⟩];exact hfin
     ·have e6:decide (yW fx s n=104)=false:=by simp[h6]
      rw[e6,bB (by unfold tv;intro hh;exact hh.2.2.2.elim h5 h6)];rfl
def Fh (fx:Bool)(out:List Tok):Bool:=fx&&(match out.getLast? with|none=>true|some t=>decide (t.kind=2)&&[[40],[44],[47],[61]].contains t.text)
def agL (ho:out.length<=200000):(ev E).call 187 [LV.cv (CV.ref b.length 0 0)] (scM b s fx out kept)=some (.ret (LV.bool (Fh fx out)) (scM b s fx out kept)):=by
 refine bW ?_;have h:=rz (b:=b) (s:=s) (fx:=fx) (out:=out) (kept:=kept);rw[ai9,h,Fz,zD];simp only[bQ];cases fx with
 |false=>rfl|true=>
  simp only[bQ];have hlen:(bS out).length=out.length:=by simp[bS]
  have hG:Xp (ev E) b.length 0 (scM b s true out kept)=some (vf (Fh true out) (scM b s true out kept)):=by
   refine ck ?_;rw[acv,h,aej,bx,WY,bx,hlen];by_cases h0:out=[]
   ·subst h0;rfl
   ·have hpos:0<out.length:=by
     cases out with|nil=>exact absurd rfl h0|cons a r=>simp
    have e0:decide ((out.length:Int)=0)=false:=by simp[h0]
    rw[e0,bI];have hg:out.getLast?=some (out.getLast h0):=List.getLast?_eq_some_getLast h0;have hG5:Xq (ev E) b.length 0 (scM b s true out kept)=some (vg (Fh true out) (scM b s true out kept)):=by
     refine ck ?_;rw[acw,h,aej,bx,WY,bx,bx,WY,bx,hlen,el bu bu];have e1:(out.length:Int) -1=((out.length-1:Nat):Int):=bu;have e2:(bS out)[out.length-1]? =some (out.getLast h0).cv:=by unfold bS;rw[gM,dK bu,List.getLast_eq_getElem];rfl
     rw[e1,eJ,e2,bx,iw];unfold Fh;rw[hg];simp only[ic];by_cases hk:(out.getLast h0).kind=2
     ·have:decide ((out.getLast h0).kind=2)=true:=by simp[hk]
      rw[this,bH];have e3:LV.osl [CV.str ([40]:List UInt8),CV.str ([44]:List UInt8),CV.str ([47]:List UInt8),CV.str ([61]:List UInt8)]=LV.osl (dh [[40],[44],[47],[61]]):=rfl;rw[e3,ZA bE];simp only[bQ,ic]
     ·have:decide ((out.getLast h0).kind=2)=false:=by simp[hk]
      rw[this,bI,ov]
    rw[hG5,bx,Qp]
  rw[hG,bx,Qo]
def kg (t:List UInt8):Option (List UInt8):=
 if t=[60,61]then some [46,76,69,46]else if t=[62,61]then some [46,71,69,46]else if t=[61,61]then some [46,69,81,46]else if t=[47,61]then some [46,78,69,46]
 else if t=[60]then some [46,76,84,46]else if t=[62]then some [46,71,84,46]else none
def iu (fx:Bool)(s:List UInt8)(n:Nat):Except Int (Tok×Nat):=
 let a:=atC fx s n;let m:=atE fx s n;let c:=atC fx s m
 match kg [a,c]with
 |some w=> .ok (⟨2,0,w⟩,atE fx s m)|none=>if c≠0/\dl.contains [a,c]then .ok (⟨2,0,[a,c]⟩,atE fx s m)
  else match kg [a]with
   |some w=> .ok (⟨2,0,w⟩,m)|none=>if dl.contains [a]then .ok (⟨2,0,[a]⟩,m)else .error 7
end
def ksV:List Value:=[Value.string ⟨⟨([60,61]:List UInt8)⟩⟩,Value.string ⟨⟨([62,61]:List UInt8)⟩⟩,Value.string ⟨⟨([61,61]:List UInt8)⟩⟩,Value.string ⟨⟨([47,61]:List UInt8)⟩⟩,Value.string ⟨⟨([60]:List UInt8)⟩⟩,Value.string ⟨⟨([62]:List UInt8)⟩⟩]
def vsV:List CV:=[CV.str ([46,76,69,46]:List UInt8),CV.str ([46,71,69,46]:List UInt8),CV.str ([46,69,81,46]:List UInt8),CV.str ([46,78,69,46]:List UInt8),CV.str ([46,76,84,46]:List UInt8),CV.str ([46,71,84,46]:List UInt8)]
section
variable {b:Mu}{s:List UInt8}{fx:Bool}{out:List Tok}{kept:List Nat}{μ:Mu}
def Zw:(ev E).call 215 [] μ=some (.ret (LV.cv (CV.mview ksV vsV)) μ):=bW (by rw[ajp];rfl)
theorem Nn {s:S}:C1 (LV.cv (CV.mview ksV vsV)) s μ=some (ksV,vsV):=rfl
def TO:p3 .string ksV=true:=cf
def Gw (t:List UInt8):lq ksV vsV (Value.string ⟨⟨t⟩⟩)=(kg t).map CV.str:=by
 have h: ∀u:List UInt8,CZ (Value.string ⟨⟨t⟩⟩) (Value.string ⟨⟨u⟩⟩)=decide (t=u):=λu=>rfl;simp only[ksV,vsV,lq,h];unfold kg;by_cases h1:t=[60,61]
 ·simp[h1]
 ·by_cases h2:t=[62,61]
  ·simp[h2]
  ·by_cases h3:t=[61,61]
   ·simp[h3]
   ·by_cases h4:t=[47,61]
    ·simp[h4]
    ·by_cases h5:t=[60]
     ·simp[h5]
     ·by_cases h6:t=[62]
      ·simp[h6]
      ·simp[h1,h2,h3,h4,h5,h6]
def agb {a:UInt8}:dg [CV.int .u8 (a.toNat:Int)]=some [a]:=gv [a]
def agc {a c:UInt8}:dg [CV.int .u8 (a.toNat:Int),CV.int .u8 (c.toNat:Int)]=some [a,c]:=gv [a,c]
def aa3 {a:UInt8}{m:Nat}{x y:Int}{z:List UInt8}:R9 (ev E) (m:Int) [a] x y z μ=some (stT μ te pD (if dl.contains [a]then .ok (⟨2,0,[a]⟩,m)else .error 7)):=by
 refine ck ?_;rw[aak,VB];simp only[bQ];rw[GQ (l:=dl) cf];simp only[bQ];cases dl.contains [a]with|true=>rfl|false=>rw[c8,bH,p5,eu];rfl
def one (a:UInt8)(m:Nat):Except Int (Tok×Nat):=match kg [a]with
 |some w=> .ok (⟨2,0,w⟩,m)|none=>if dl.contains [a]then .ok (⟨2,0,[a]⟩,m)else .error 7
def O2 {a:UInt8}{m:Nat}{x y:Int}{z:List UInt8}:Lk (ev E) (a.toNat:Int) (m:Int) x y z μ=some (stT μ rM rN (one a m)):=by
 refine ck ?_;rw[acG,agb,bx,Zw,bV];simp only[bQ,o5,Nn,TO,Gw];unfold one;cases kg [a]with
 |some w=>rfl|none=>
  simp only[Option.map_none,optE];rw[aa3,bx];cases dl.contains [a]with|true=>exact On _ _ _ _ _ _|false=>exact Oo _ _ _
def adh {a c:UInt8}{m e:Nat}{x y:Int}{z:List UInt8}:Xv (ev E) (a.toNat:Int) (m:Int) (c.toNat:Int) (e:Int) [a,c] x y z μ=some (stT μ oP mJ (if c≠0/\dl.contains [a,c]then .ok (⟨2,0,[a,c]⟩,e)else one a m)):=by
 refine ck ?_;have hone:kS (ev E) nW [] [(4,0),(5,0)] (stT μ rM rN (one a m))=some (stT μ oP mJ (one a m)):=by
  cases one a m with|ok q=>exact QF _ _ _ _ _ _|error e=>exact QG _ _ _
 rw[acF,wg,O2,bx,hone,VB];simp only[bQ];rw[GQ (l:=dl) cf];simp only[bQ];by_cases hc:c=0
 ·subst hc;rfl
 ·have h1:(c != 0)=true:=by simp[hc]
  rw[h1];simp only[bQ,hc,ne_eq,not_false_eq_true,jW];cases dl.contains [a,c]with|true=>rfl|false=>rw[bI,O2,bx,hone];rfl
def agO {l i:Nat}{r:List LV}(h:Sc μ l i s fx r)(hs:s.length<=200000){n:Nat}(hn:n<=s.length):
 (ev E).call 195 [LV.cv (CV.ref l i 0),bv (n:Int)] μ=some (Ca μ (iu fx s n)):=by
 have hle:=lW (fx:=fx) hn;refine bW ?_;rw[ajh,mY h bu hn];simp only[bQ];rw[mY h bu hle];simp only[bQ];rw[agc,bx,Zw,bV];simp only[bQ,o5,Nn,TO,Gw];unfold iu;simp only;rw[adh,bx];cases kg [atC fx s n,atC fx s (atE fx s n)]with
 |some w=>rfl|none=>
  simp only[Option.map_none,optE];have: ∀q:Except Int (Tok×Nat),kB (ev E) 195 nW [] (stT μ oP mJ q)=some (Ca μ q):=by
   intro q;cases q with|ok q=>exact QD _ _ _ _ _ _|error e=>exact QE _ _ _
  rw[this];rfl
def noK:Except Int (Tok×Nat)->Except Int (Tok×Nat×List Nat)
 | .ok q=> .ok (q.1,q.2,[])| .error e=> .error e
def fC (w:List UInt8):Tok:=if w=kh\/w=jh then⟨1,5,w⟩else⟨2,0,w⟩
def fp (fx:Bool)(s:List UInt8)(n:Nat)(c:UInt8):Except Int (Tok×Nat×List Nat):=
 if cM c then(if 31<(fc fx cX s n).length then .error 4 else .ok (⟨0,0,up (fc fx cX s n)⟩,runE fx cX s n,[]))
 else if bL c||(decide (c=46)&&bL (atC fx s (n+1)))then noK (fa fx s n)
 else if c=46 then(if(dE fx s n).2.2 then .ok (fC (dE fx s n).1,(dE fx s n).2.1,[])else .error 7)
 else if c=39\/c=34 then iE s n
 else noK (iu fx s n)
def jn (fx:Bool)(s:List UInt8)(out:List Tok)(n:Nat):Except Int (Tok×Nat×List Nat):=
 if Fh fx out&&bL ((s[n]?).getD 0)&&decide (tv fx s n)then we fx s n else fp fx s n ((s[n]?).getD 0)
def stK (b:Mu)(s:List UInt8)(fx:Bool)(out:List Tok)(kept:List Nat):Except Int (Tok×Nat×List Nat)->St
 | .ok q=>fO (q.2.1:Int) q.1.kind q.1.type q.1.text (scM b s fx out (kept++q.2.2))| .error e=>dM (mD e) (scM b s fx out kept)
def Uo {q:Except Int (Tok×Nat)}:stT (scM b s fx out kept) fO dM q=stK b s fx out kept (noK q):=by
 cases q with|ok q=>simp only[stT,noK,stK,fy]|error e=>rfl
def aa1 {w:List UInt8}{e:Nat}{x y:Int}{z:List UInt8}:(opt (oL (ev E) w (e:Int) x y z μ) (kS (ev E) jC [.block 0,.seq (cN 169 63)] [(4,0),(5,0)]))=some (fO (e:Int) (fC w).kind (fC w).type (fC w).text μ):=by
 have:oL (ev E) w (e:Int) x y z μ=some (pC (e:Int) (fC w).kind (fC w).type (fC w).text μ):=by
  refine ck ?_;rw[aac];have h3:([46,84,82,85,69,46]:List UInt8)=kh:=rfl;have h4:([46,70,65,76,83,69,46]:List UInt8)=jh:=rfl;rw[h3,h4];unfold fC;by_cases h1:w=kh
  ·simp[h1]
  ·by_cases h2:w=jh
   ·simp[h2]
   ·simp[h1,h2]
 rw[this,bx,Of]
def aa2 (hs:s.length<=200000){n:Nat}(hn:n<=s.length){x y:Int}{z:List UInt8}:(opt (wx (ev E) b.length 0 (n:Int) x y z (scM b s fx out kept)) (kS (ev E) jC [] [(4,0),(5,0)]))=some (stK b s fx out kept (noK (iu fx s n))):=by
 have:wx (ev E) b.length 0 (n:Int) x y z (scM b s fx out kept)=some (stT (scM b s fx out kept) yg yh (iu fx s n)):=by
  refine ck ?_;rw[aad,agO rz hs hn];cases iu fx s n with|ok q=>simp only[Ca,bQ,iw];rfl|error e=>rfl
 rw[this,bx,<-Uo];cases iu fx s n with|ok q=>exact Og _ _ _ _ _ _|error e=>exact Oh _ _ _
def adf (hs:s.length<=200000)(hk:kept.length<=200000){n:Nat}(hn:n<s.length){x y:Int}{z:List UInt8}:zZ (ev E) b.length 0 (n:Int) (((s[n]?).getD 0).toNat:Int) x y z (scM b s fx out kept)=some (stK b s fx out kept (fp fx s n ((s[n]?).getD 0))):=by
 have h:=rz (b:=b) (s:=s) (fx:=fx) (out:=out) (kept:=kept);have e46: ∀c:UInt8,decide ((c.toNat:Int)=46)=decide (c=46):=λc=>eZ (k:=46) bu;have e39: ∀c:UInt8,decide ((c.toNat:Int)=39)=decide (c=39):=λc=>eZ (k:=39) bu;have e34: ∀c:UInt8,decide ((c.toNat:Int)=34)=decide (c=34):=λc=>eZ (k:=34) bu;have w1:IntKind.wrap .i64 ((n:Int)+1)=((n+1:Nat):Int):=by rw[el bu bu];omega
 have hr:=oK (fx:=fx) (s:=s) (p:=cX) (n:=n);obtain⟨c,hc⟩: ∃c,c=(s[n]?).getD 0:=⟨_,rfl⟩;rw[<-hc];have hnum: ∀{k1 k2:CV->Mu->Option St},callK (some (Ca (scM b s fx out kept) (fa fx s n))) (λv μ=>opt (ci v) λxs=>opt (bG xs) λq=>iy q.1 λn1 n2 s3=>opt (bG q.2) λq2=>opt (bN .i64 q2.1) λn4=>opt (bZ q2.2) λu=>some (fO n4 n1 n2 s3 μ)) (λv μ=>some (dM v μ))=some (stK b s fx out kept (noK (fa fx s n))):=by
  intro k1 k2;rw[<-Uo];cases fa fx s n with|ok q=>simp only[Ca,bQ,iw];rfl|error e=>rfl
 have hquo:callK (some (IF b s fx out kept (iE s n))) (λv μ=>opt (ci v) λxs=>opt (bG xs) λq=>iy q.1 λn1 n2 s3=>opt (bG q.2) λq2=>opt (bN .i64 q2.1) λn4=>opt (bZ q2.2) λu=>some (fO n4 n1 n2 s3 μ)) (λv μ=>some (dM v μ))=some (stK b s fx out kept (iE s n)):=by
  cases iE s n with|ok q=>simp only[IF,bQ,iw];rfl|error e=>rfl
 refine ck ?_;rw[acu,w1,mY h bu bu];simp only[bQ];rw[GN];simp only[bQ];unfold fp;cases hlet:cM c with
 |true=>
  rw[bH,w6 h bu (λc=>agB) bu];simp only[bQ,cQ];by_cases h31:31<(fc fx cX s n).length
  ·have:decide ((31:Int)<((fc fx cX s n).length:Int))=true:=b7;rw[this,bH,p5,eu,bC h31];rfl
  ·have:decide ((31:Int)<((fc fx cX s n).length:Int))=false:=b7;rw[this,bI,M8 bu,bV,dT,bx,bB h31];simp only[stK,fy]
 |false=>
  rw[bI,sc];simp only[bQ,d6,du,e46,e39,e34];have hdot: ∀(o:Option St),(decide (c=46)&&bL (atC fx s (n+1)))=false->bL c=false->
   cond (decide (c = 46)) (callK ((ev E).call 193 [LV.cv (CV.ref b.length 0 0), bv (n : Int)] (scM b s fx out kept)) (λv103 μ104 =>
    opt (ci v103) λxs107=>
    opt (bG xs107) λq108=>
    opt (cg q108.1) λs109=>
    opt (bG q108.2) λq110=>
    opt (bN .i64 q110.1) λn111=>
    opt (bG q110.2) λq112=>
    opt (bO q112.1) λb113=>
    opt (bZ q112.2) λu114=>
    cond (!b113) (
    callK ((ev E).call 191 [bv (7 : Int)] μ104) (λv115 μ116 =>
    opt (ci v115) λxs119=>
    opt (bZ xs119) λu120=>
    opt (oL (ev E) s109 n111 x y z μ116) (kS (ev E) jC [.block 0,.seq (cN 169 63)] [(4,0),(5,0)])) (λv118 μ117=>
    some (dM v118 μ117))) (
    opt (oL (ev E) s109 n111 x y z μ104) (kS (ev E) jC [.block 0,.seq (cN 169 63)] [(4,0),(5,0)]))) (λv106 μ105=>
    some (dM v106 μ105))) o=if c=46 then some (stK b s fx out kept (if(dE fx s n).2.2 then .ok (fC (dE fx s n).1,(dE fx s n).2.1,[])else .error 7))else o:=by
   intro o h1 h2;by_cases h46:c=46
   ·have:decide (c=46)=true:=by simp[h46]
    rw[this,bH,Zr h hs bu,bC h46];simp only[bQ];cases hd:(dE fx s n).2.2 with|true=>rw[cS,bI,aa1];simp only[cQ,stK,fy]|false=>rw[c8,bH,p5,eu];rfl
   ·have:decide (c=46)=false:=by simp[h46]
    rw[this,bI,bB h46]
  have htail: ∀(o1:Option St),o1=some (stK b s fx out kept (iE s n))->
   cond (decide (c=39)) o1 (cond (decide (c=34)) o1 (opt (wx (ev E) b.length 0 (n:Int) x y z (scM b s fx out kept)) (kS (ev E) jC [] [(4,0),(5,0)])))=
    some (stK b s fx out kept (if c=39\/c=34 then iE s n else noK (iu fx s n))):=by
   intro o1 ho;rw[aa2 hs bu,ho];by_cases h1:c=39
   ·simp[h1]
   ·by_cases h2:c=34
    ·simp[h2]
    ·simp[h1,h2]
  cases hdig:bL c with
  |true=>rw[bH,Zq h hs bu];simp only[Bool.true_or,cQ];exact hnum (k1:=λ_ _=>none) (k2:=λ_ _=>none)|false=>
   rw[bI];by_cases h46:c=46
   ·have h1:decide (c=46)=true:=by simp[h46]
    rw[h1,bH,sc];simp only[bQ,qq,ic];cases hd2:bL (atC fx s (n+1))with|true=>rw[bH,Zq h hs bu];simp only[cQ];exact hnum (k1:=λ_ _=>none) (k2:=λ_ _=>none)|false=>have:=hdot none (by rw[hd2];simp) hdig;rw[h1,bH]at this;simp only[bQ,d6,du];rw[this,bC h46,bC h46]
   ·have h1:decide (c=46)=false:=by simp[h46]
    rw[h1,bI,bI,agN hs hk hn];simp only[qq,ov,d6,du];rw[bB h46];exact htail _ hquo
def Zp (hs:s.length<=200000)(hk:kept.length<=200000)(ho:out.length<=200000){n:Nat}(hn:n<s.length):
 (ev E).call 169 [LV.cv (CV.ref b.length 0 0),bv (n:Int)] (scM b s fx out kept)=some (IF b s fx out kept (jn fx s out n)):=by
 have h:=rz (b:=b) (s:=s) (fx:=fx) (out:=out) (kept:=kept);have hfin: ∀{x y:Int} {z:List UInt8},(opt (zZ (ev E) b.length 0 (n:Int) (((s[n]?).getD 0).toNat:Int) x y z (scM b s fx out kept)) (kB (ev E) 169 jC []))=some (IF b s fx out kept (fp fx s n ((s[n]?).getD 0))):=by
  intro x y z;rw[adf hs hk hn,bx];cases fp fx s n ((s[n]?).getD 0)with|ok q=>exact Qm _ _ _ _ _ _|error e=>exact Qn _ _ _
 refine bW ?_;have hg:s[n]? =some ((s[n]?).getD 0):=by rw[dK hn,ia]
 rw[ai5,h,kO,gA,bx,dT,bx,sA,hg,bx,agL ho];simp only[bQ];unfold jn;cases hm:Fh fx out with
 |false=>rw[bI,hfin];rfl|true=>
  rw[bH,sc];simp only[bQ];cases hd:bL ((s[n]?).getD 0)with
  |false=>rw[bI,hfin];rfl|true=>
   rw[bH,agM hs hk bu];by_cases hh:tv fx s n
   ·simp only[hh,cQ,ic,iB];cases we fx s n with|ok q=>simp only[ac0,bQ,iw];rfl|error e=>rfl
   ·simp only[hh,du,ic,oy,d6];simp only[bQ,iw];exact hfin
end
section
variable {b:Mu}{s:List UInt8}{fx:Bool}{out:List Tok}{kept:List Nat}{μ:Mu}
def afQ {n:Nat}{c:UInt8}(h:s[n]? =some c)(hc:c≠32):skipN fx s n=n:=by
 unfold skipN;split
 ·have hn:n<s.length:=by
   rcases fu n s.length with h1|h1
   ·exact h1
   ·rw[eB h1]at h;cases h
  have hd:s.drop n=s[n]::s.drop (n+1):=dY hn;rw[dK hn]at h;injection h with h;rw[hd,cB,h,bB hc];rfl
 ·rfl
def lE {n:Nat}{c:UInt8}(h:s[n]? =some c):n<s.length:=by
 rcases fu n s.length with h1|h1
 ·exact h1
 ·rw[eB h1]at h;cases h
def wL {n:Nat}{c:UInt8}(h:s[n]? =some c)(hc:c≠32):atC fx s n=c/\atE fx s n=n+1:=by have hn:=lE h;unfold atC atE;rw[afQ h hc,h];exact⟨rfl,by rw[bC hn]⟩
def wM {n:Nat}:n<=atE fx s n:=by have:=O6 (fx:=fx) (s:=s) (n:=n);unfold atE;split<;>omega
def tS {p:UInt8->Bool}{n:Nat}:n<=runE fx p s n:=by unfold runE;omega
def Ul {p:UInt8->Bool}{n:Nat}{c:UInt8}(h:s[n]? =some c)(hc:c≠32)(h0:c≠0)(hp:p c=true):n+1<=runE fx p s n:=by obtain⟨h1,h2⟩:=wL (fx:=fx) h hc;have:=(Ke (fx:=fx) (s:=s) (p:=p) (n:=n) (by rw[h1,hp];simp[h0])).2;rw[this,h2];exact tS
def UC (s:List UInt8)(n:Nat):Except Int (Tok×Nat×List Nat)->Prop
 | .ok q=>n<q.2.1/\q.2.1<=s.length/\q.2.2.length+n<=q.2.1| .error _=>True
def ab5 {n:Nat}(hn:n<=s.length):n<=(cz fx s n).2.2.1/\(cz fx s n).2.2.1<=s.length:=by
 unfold cz;have hle:=lW (fx:=fx) hn;have hle2:=lW (fx:=fx) hle;have hst:expStart fx s n<=s.length:=by unfold expStart;split<;>assumption
 have hst2:n<=expStart fx s n:=by have h1:=wM (fx:=fx) (s:=s) (n:=n);have h2:=wM (fx:=fx) (s:=s) (n:=atE fx s n);unfold expStart;split<;>omega
 split
 ·have h1:=tS (fx:=fx) (s:=s) (p:=bL) (n:=expStart fx s n);have h2:=nJ (fx:=fx) (p:=bL) hst;simp only;omega
 ·simp only;omega
def ada {whole part digits:List UInt8}{letter:UInt8}{ok:Bool}{e:Nat}{q:Tok×Nat}(h:fG whole part digits letter ok e= .ok q):q.2=e:=by
 unfold fG at h;split at h
 ·cases h
 ·injection h with h;rw[<-h]
def RC {n:Nat}{c:UInt8}(h:s[n]? =some c)(hc:bL c=true\/c=46):UC s n (noK (fa fx s n)):=by
 have hn:=lE h;have h32:c≠32:=by
  rintro rfl;rcases hc with h1|h1
  ·exact absurd h1 cf
  ·exact absurd h1 cf
 have h0:c≠0:=by
  rintro rfl;rcases hc with h1|h1
  ·exact absurd h1 cf
  ·exact absurd h1 cf
 obtain⟨ha,hb⟩:=wL (fx:=fx) h h32;have hle:=nJ (fx:=fx) (p:=bL) (xK hn);have hle2:=lW (fx:=fx) hle;have hle3:=nJ (fx:=fx) (p:=bL) hle2;have hend:numEnd fx s n<=s.length:=by unfold numEnd;split<;>assumption
 have hgt:n<numEnd fx s n:=by
  have g1:=tS (fx:=fx) (p:=bL) (s:=s) (n:=n);have g2:=wM (fx:=fx) (s:=s) (n:=runE fx bL s n);have g3:=tS (fx:=fx) (p:=bL) (s:=s) (n:=atE fx s (runE fx bL s n));rcases hc with hd|hd
  ·have:=Ul (fx:=fx) h h32 h0 hd;unfold numEnd;split<;>omega
  ·obtain⟨e1,e2⟩:=zw (fx:=fx) (s:=s) (p:=bL) (n:=n) (by rw[ha,hd];decide);have hdot:e8 fx s n=true:=by unfold e8 dU;rw[e2,ha,e1,hd];simp
   unfold numEnd;rw[bC hdot,e2,hb];rw[e2,hb]at g3;omega
 have hx:=ab5 (fx:=fx) (s:=s) hend;unfold fa;simp only;split
 ·cases eK (dU fx s n)with|ok t=>exact⟨hgt,hend,b7⟩|error e=>trivial
 ·cases hr:fG (dU fx s n) (gl fx s n) (cz fx s (numEnd fx s n)).2.1 (cz fx s (numEnd fx s n)).1 (cz fx s (numEnd fx s n)).2.2.2 (if(cz fx s (numEnd fx s n)).2.2.2 then(cz fx s (numEnd fx s n)).2.2.1 else numEnd fx s n)with
  |error e=>trivial|ok q=>
   have:=ada hr;refine⟨?_,?_,?_⟩
   ·show n<q.2;rw[this];split<;>omega
   ·show q.2<=s.length;rw[this];split<;>omega
   ·show 0+n<=q.2;rw[this];split<;>omega
def RJ {n:Nat}(hn:n<s.length):UC s n (iE s n):=by
 unfold iE gd;cases hq:eI ((s[n]?).getD 0) (s.drop (n+1))with
 |none=>trivial|some x=>
  obtain⟨t,k⟩:=x;have:=vP _ _ (ct _) t k hq;rw[fY]at this;simp only;split
  ·rename_i q heq;split at heq
   ·cases heq
   ·injection heq with heq;subst heq;refine⟨?_,?_,?_⟩
    ·show n<n+1+k;omega
    ·show n+1+k<=s.length;omega
    ·show (List.range' n (n+1+k-n)).length+n<=n+1+k;simp;omega
  ·trivial
def afE {n:Nat}{c:UInt8}(h:s[n]? =some c)(hc:c≠32):UC s n (noK (iu fx s n)):=by
 have hn:=lE h;obtain⟨ha,hb⟩:=wL (fx:=fx) h hc;have g1:=wM (fx:=fx) (s:=s) (n:=n+1);have g2:=lW (fx:=fx) (s:=s) (n:=n+1) hn;unfold iu;simp only[hb];split
 ·exact⟨by show n<atE fx s (n+1);omega,g2,by show 0+n<=atE fx s (n+1);omega⟩
 ·split
  ·exact⟨by show n<atE fx s (n+1);omega,g2,by show 0+n<=atE fx s (n+1);omega⟩
  ·split
   ·exact⟨by show n<n+1;omega,hn,by show 0+n<=n+1;omega⟩
   ·split
    ·exact⟨by show n<n+1;omega,hn,by show 0+n<=n+1;omega⟩
    ·trivial
def zF {n:Nat}{c:UInt8}(h:s[n]? =some c)(hc:c≠32):UC s n (jn fx s out n):=by
 have hn:=lE h;obtain⟨ha,hb⟩:=wL (fx:=fx) h hc;unfold jn;rw[h,ia];split
 ·rename_i hh;simp only[cE,dA]at hh;obtain⟨_,hN⟩:=hh;unfold we;split
  ·trivial
  ·rename_i hlen;have g1:=tS (fx:=fx) (p:=bL) (s:=s) (n:=n);have g2:=wM (fx:=fx) (s:=s) (n:=runE fx bL s n);have g3:runE fx bL s n<=holE fx s n:=g2;have g4:=hN.2.1;refine⟨?_,?_,?_⟩
   ·show n<holE fx s n+(kX fx s n).toNat;omega
   ·show holE fx s n+(kX fx s n).toNat<=s.length;omega
   ·show (List.range' (holE fx s n) (kX fx s n).toNat).length+n<=holE fx s n+(kX fx s n).toNat;simp;omega
 ·unfold fp;split
  ·rename_i hl;have h0:c≠0:=by rintro rfl;exact absurd hl cf
   have hp:cX c=true:=by unfold cX;rw[hl];rfl
   have g1:=Ul (fx:=fx) h hc h0 hp;have g2:=nJ (fx:=fx) (p:=cX) (xK hn);split
   ·trivial
   ·exact⟨by show n<runE fx cX s n;omega,g2,by show 0+n<=runE fx cX s n;omega⟩
  ·split
   ·rename_i hd;refine RC h ?_;rw[gO,cE,dA]at hd;rcases hd with hd|hd
    ·exact Or.inl hd
    ·exact Or.inr hd.1
   ·split
    ·rename_i h46;subst h46;split
     ·have e:dE fx s n=(fM fx s n,dotEnd fx s n,jb fx s n):=by unfold dE;rw[bC ha]
      rw[e];have g1:=tS (fx:=fx) (p:=cM) (s:=s) (n:=atE fx s n);have g2:=wM (fx:=fx) (s:=s) (n:=runE fx cM s (atE fx s n));have g3:=lW (fx:=fx) (xK hn);have g4:=nJ (fx:=fx) (p:=cM) g3;have g5:=lW (fx:=fx) g4;have g6:runE fx cM s (atE fx s n)<=dotEnd fx s n:=g2;rw[hb]at g1 g6;exact⟨by show n<dotEnd fx s n;omega,g5,by show 0+n<=dotEnd fx s n;omega⟩
     ·trivial
    ·split
     ·exact RJ hn
     ·exact afE h hc
def eN (fx:Bool)(s:List UInt8):Nat->Nat->List Tok->List Nat->Option (Nat×Int)×List Tok×List Nat
 |0,_,out,kept=>(none,out,kept)|k+1,n,out,kept=>
  if s.length<=n+cB (s.drop n)then(none,out,kept)
  else match jn fx s out (n+cB (s.drop n))with
   | .error e=>(some (n+cB (s.drop n),e),out,kept)| .ok q=>eN fx s k q.2.1 (out++[q.1]) (kept++q.2.2)
def ab3 (b:Mu)(s:List UInt8)(fx:Bool):Option (Nat×Int)×List Tok×List Nat->St
 |(none,out,kept)=>A4 0 0 (scM b s fx out kept)|(some (n,e),out,kept)=>A5 (mD e) (n:Int) 0 (scM b s fx out kept)
def acg {l i:Nat}{r:List LV}(h:Sc μ l i s fx r)(hs:s.length<=1000000): ∀(k n:Nat),n+k=s.length->HX (ev E) l i (n:Int) 0 μ=some (th l i ((n+cB (s.drop n):Nat):Int) 0 μ):=by
 intro k
 induction k with
 |zero=>intro n hk;refine cC ?_;rw[J1,h];simp only[bx,kO,gA,dT];have:List.drop n s=[]:=dS bu;have h1:decide ((n:Int)<(s.length:Int))=false:=b7;rw[h1,this];simp[cB]|succ k ih=>
  intro n hk;refine cC ?_;rw[J1,h];simp only[bx,kO,gA,dT];have h1:decide ((n:Int)<(s.length:Int))=true:=b7;have hn:n<s.length:=bu;rw[h1,sA,dK hn,bx];have hd:List.drop n s=s[n]::List.drop (n+1) s:=dY hn;have e:IntKind.wrap .i64 ((n:Int)+1)=((n+1:Nat):Int):=by rw[el bu bu];omega
  have e32: ∀c:UInt8,decide ((c.toNat:Int)=32)=decide (c=32):=λc=>eZ (k:=32) bu;rw[e,ih (n+1) bu,e32,hd,cB];by_cases hc:s[n]=32
  ·simp only[hc,iB,bH,cQ];congr 2;omega
  ·simp only[hc,oy,bI,bH,du];rfl
def Gg {n:Nat}(h:n+cB (s.drop n)<s.length): ∃c,s[n+cB (s.drop n)]? =some c/\c≠32:=by refine⟨s[n+cB (s.drop n)],dK h,?_⟩;have hd:=dY h;refine ri (s.drop n) _ (s.drop (n+cB (s.drop n)+1)) ?_;rw[ib];exact hd
def ae3 (hs:s.length<=200000): ∀(k n:Nat) (out:List Tok) (kept:List Nat),s.length<n+k->n<=s.length->out.length<=n->kept.length<=n->
 LC (ev E) b.length 0 (n:Int) 0 (scM b s fx out kept)=some (ab3 b s fx (eN fx s k n out kept)):=by
 intro k
 induction k with
 |zero=>intro n out kept hk hn ho hq;omega|succ k ih=>
  intro n out kept hk hn ho hq;have h:=rz (b:=b) (s:=s) (fx:=fx) (out:=out) (kept:=kept);have hb:=rU (s.drop n);rw[fY]at hb;refine cC ?_;rw[acV,acg h bu (s.length-n) n bu,bx,Oy,h,kO,gA,bx,dT,bx];unfold eN;by_cases hm:s.length<=n+cB (s.drop n)
  ·have:decide ((s.length:Int)<=((n+cB (s.drop n):Nat):Int))=true:=b7;rw[this,bH,bC hm];rfl
  ·have:decide ((s.length:Int)<=((n+cB (s.drop n):Nat):Int))=false:=b7;rw[this,bI,bB hm];obtain⟨c,hc1,hc2⟩:=Gg (s:=s) (n:=n) bu;have hf:=zF (fx:=fx) (out:=out) hc1 hc2;obtain⟨m,hmd⟩: ∃m,m=n+cB (s.drop n):=⟨_,rfl⟩;rw[<-hmd]at hm hf |-;cases ht:jn fx s out m with
   |error e=>
    have hG:Lc (ev E) b.length 0 (m:Int) 0 (scM b s fx out kept)=some (Ap (mD e) (m:Int) 0 (scM b s fx out kept)):=by refine ck ?_;rw[Ns,Zp hs bu bu bu,ht];rfl
    rw[hG,bx,Qg];rfl
   |ok q=>
    rw[ht]at hf;obtain⟨f1,f2,f3⟩:=hf;have hG:Lc (ev E) b.length 0 (m:Int) 0 (scM b s fx out kept)=some (Ao b.length 0 (q.2.1:Int) 0 (scM b s fx (out++[q.1]) (kept++q.2.2))):=by
     refine ck ?_;rw[Ns,Zp hs bu bu bu,ht];simp only[IF,bQ,iw];unfold scM;rw[xo];unfold scO;rw[ajF,bx,aaH,bx];have ha:[CV.agg [bF q.1.kind,bF q.1.type,CV.str q.1.text]]=bS [q.1]:=rfl;have hc:CV.agg [bF q.1.kind,bF q.1.type,CV.str q.1.text]=q.1.cv:=rfl;rw[ha,F9 b7,cK];have hbl:dp (b.length+1) (bS out++bS [q.1])=true:=by
      have:bS out++bS [q.1]=bS (out++[q.1]):=by simp[bS]
      rw[this];exact vY _
     rw[hbl,cK,xq,xo,ahV,bx,xq];have e2:bS [q.1]=[q.1.cv]:=rfl;rw[e2,ahM]
    rw[hG,bx,Qf,ih q.2.1 _ _ bu f2 b7 b7]
def ey (b:Mu)(x:Lam):eE (b++[x])=some (b,x):=by simp[eE]
def abt {e:Int}:dv E.P 25 (.cells [bv (0:Int)]) 0 (bv e)=some (.cells [bv e]):=bw
def OV {e:Int}:cw E.P 25 (bU [Ob.cells [bv e]] 0) 0=some (bv e):=bw
def eP:Option (Nat×Int)->Nat×Int
 |none=>(0,0)|some q=>q
def agH (hs:s.length<=200000){r:Option (Nat×Int)×List Tok×List Nat}(hr:eN fx s (s.length+1) 0 [] []=r):
 (ev E).call 152 [LV.cv (CV.ref b.length 0 0)] (scM b s fx [] [])=some (.ret (.ltup [bv ((eP r.1).1:Int),bv (eP r.1).2]) (scM b s fx r.2.1 r.2.2)):=by
 refine bW ?_;have hl:=ae3 (b:=b) (fx:=fx) hs (s.length+1) 0 [] [] bu bu bE bE;have e0:((0:Nat):Int)=0:=rfl;rw[hr,e0]at hl;rw[aiX,hl,bx];obtain⟨x,o,q⟩:=r;cases x with
 |none=>simp only[ab3];have hd:(ev E).dcall 168 none [LV.cv (CV.ref (scM b s fx o q).length 0 0)] (scM b s fx o q++[[Ob.cells [bv 0]]])=some (scM b s fx o q++[[Ob.cells [bv 0]]]):=ux (by rw[afd]);rw[Rk,hd,bx,ey,bx];simp only[OV,bx,eP];rfl|some w=>
  obtain⟨n,e⟩:=w;simp only[ab3];have hd:(ev E).dcall 168 (some (mD e)) [LV.cv (CV.ref (scM b s fx o q).length 0 0)] (scM b s fx o q++[[Ob.cells [bv 0]]])=some (scM b s fx o q++[[Ob.cells [bv e]]]):=by refine ux ?_;unfold mD;rw[afe,xo,abt,bx,xq]
  rw[Rl,hd,bx,ey,bx];simp only[OV,bx,eP];rfl
def jT (s:List UInt8):Bool:= !(s.any λb=>decide (b.toNat<32)||decide (126<b.toNat))
def ez (s:List UInt8):Int:=if 1320<s.length then 8 else if jT s then 0 else 3
def M7 {g:FuncId}{p:UInt8->Bool}(hg:sx g=some p):(ev E).call 131 [LV.str s,LV.cv (CV.clo g [])] μ=some (.ret (LV.bool (s.any p)) μ):=by refine jS (g:=l5 sx) bw ?_;simp only[l5,dc,bx,cR,dT,hg]
def agJ:(ev E).call 167 [LV.str s] μ=some (.ret (LV.bool (jT s)) μ):=by refine bW ?_;rw[ai4,M7 (g:=186) rfl];simp only[bQ];rfl
def agG:(ev E).call 151 [LV.str s] μ=some (.ret (bv (ez s)) μ):=by
 refine bW ?_;rw[aiW,agJ];simp only[bQ];unfold ez;by_cases h:1320<s.length
 ·have:decide ((1320:Int)<(s.length:Int))=true:=b7;rw[this,bC h];rfl
 ·have:decide ((1320:Int)<(s.length:Int))=false:=b7;rw[this,bB h];cases jT s<;>rfl
structure Scan where
 toks:List Tok
 kept:List Nat
 n:Nat
 e:Int
def dn (fx:Bool)(s:List UInt8):Scan:=
 if ez s=0 then
  let r:=eN fx s (s.length+1) 0 [] []
  if(eP r.1).2=0 then(if 300<r.2.1.length then⟨r.2.1,r.2.2,0,8⟩else⟨r.2.1,r.2.2,r.2.1.length,0⟩)else⟨r.2.1,r.2.2,(eP r.1).1,(eP r.1).2⟩
 else⟨[],[],0,ez s⟩
def tD (fx:Bool)(s:List UInt8):List CV:=if ez s=0 then [CV.str s,CV.bool fx,CV.sl (bS (dn fx s).toks),CV.sl (dR (dn fx s).kept)]else [CV.str s,CV.bool fx,CV.sl [],CV.sl []]
def ahu {α:Type}{k:Lam->Option α}:qR [(0,[0,0,1,1])] [scO s fx out kept] k=k [.cells [LV.str s,LV.bool fx,.osl (bS out),.osl (dR kept)]]:=by have h1:=aaH (out:=out);have h2:=aaG (kept:=kept);unfold scO;simp only[qR,bU,ft,la,KR,h1,h2,bx,List.set_cons_zero]
def af9 {n:Nat}:below n (CV.view [CV.str s,CV.bool fx,CV.sl (bS out),CV.sl (dR kept)])=true:=by simp only[below,dp];rw[vY,vX]
def Zl (hs:s.length<=200000):(ev E).call 127 [LV.str s,LV.bool fx] μ=some (.ret (.ltup [LV.cv (CV.view (tD fx s)),bv ((dn fx s).n:Int),bv (dn fx s).e]) μ):=by
 refine bW ?_;rw[aiI,agG];simp only[bQ];by_cases ht:ez s=0
 ·have:decide (ez s=0)=true:=by simp[ht]
  rw[this,cS,bI];obtain⟨r,hr⟩: ∃r,eN fx s (s.length+1) 0 [] []=r:=⟨_,rfl⟩;have hsc:dn fx s=if(eP r.1).2=0 then(if 300<r.2.1.length then⟨r.2.1,r.2.2,0,8⟩else⟨r.2.1,r.2.2,r.2.1.length,0⟩)else⟨r.2.1,r.2.2,(eP r.1).1,(eP r.1).2⟩:=by unfold dn;rw[bC ht,hr]
  have htk:(dn fx s).toks=r.2.1/\(dn fx s).kept=r.2.2:=by
   rw[hsc];split
   ·split<;>exact⟨rfl,rfl⟩
   ·exact⟨rfl,rfl⟩
  have hC:tD fx s=[CV.str s,CV.bool fx,CV.sl (bS r.2.1),CV.sl (dR r.2.2)]:=by unfold tD;rw[bC ht,htk.1,htk.2]
  have hl:=agH (b:=μ) (fx:=fx) hs hr;have hlen:(bS r.2.1).length=r.2.1.length:=by simp[bS]
  have h5:Xi (ev E) s fx μ=some (if(eP r.1).2=0/\ ¬300<r.2.1.length then Ah s fx (bS r.2.1) (dR r.2.2) ((dn fx s).n:Int) (dn fx s).e .dead μ else u9 s fx (bS r.2.1) (dR r.2.2) ((dn fx s).n:Int) (dn fx s).e μ):=by
   refine ck ?_;have e0:μ++[[Ob.cells [LV.str s,LV.bool fx,LV.cv (CV.v (.slice none 0 0)),LV.cv (CV.v (.slice none 0 0))]]]=scM μ s fx [] []:=rfl;rw[aco,e0,hl];simp only[bQ];unfold scM;rw[ey,bx,ahu];by_cases he:(eP r.1).2=0
   ·have h6:La (ev E) ((eP r.1).1:Int) (eP r.1).2 [.cells [LV.str s,LV.bool fx,.osl (bS r.2.1),.osl (dR r.2.2)]] μ=some (Aj s fx (bS r.2.1) (dR r.2.2) μ):=by
     refine ck ?_;have:decide ((eP r.1).2=0)=true:=by simp[he]
     rw[Nq,this];rfl
    rw[h6,bx,P9];rw[hsc,bC he];by_cases h3:300<r.2.1.length
    ·have h8:Lb (ev E) [.cells [LV.str s,LV.bool fx,.osl (bS r.2.1),.osl (dR r.2.2)]] μ=some (Ak s fx (bS r.2.1) (dR r.2.2) 0 8 μ):=by
      refine ck ?_;have:decide ((300:Int)<((bS r.2.1).length:Int))=true:=by rw[hlen];simp;omega
      rw[Nr,this];rfl
     rw[h8,bx,Qa,bC h3,bB (by simp[h3])];rfl
    ·have h8:Lb (ev E) [.cells [LV.str s,LV.bool fx,.osl (bS r.2.1),.osl (dR r.2.2)]] μ=some (Al s fx (bS r.2.1) (dR r.2.2) (r.2.1.length:Int) 0 .dead μ):=by
      refine ck ?_;have:decide ((300:Int)<((bS r.2.1).length:Int))=false:=by rw[hlen];simp;omega
      have h10:R7 (ev E) s fx (bS r.2.1) (dR r.2.2) [Ob.dead] μ=some (x9 s fx (bS r.2.1) (dR r.2.2) (r.2.1.length:Int) 0 .dead μ):=by refine ck ?_;rw[Z6,hlen]
      rw[Nr,this,bI,h10,bx,N3]
     rw[h8,bx,Qb,bB h3,bC ⟨he,h3⟩]
   ·have h6:La (ev E) ((eP r.1).1:Int) (eP r.1).2 [.cells [LV.str s,LV.bool fx,.osl (bS r.2.1),.osl (dR r.2.2)]] μ=some (Ai s fx (bS r.2.1) (dR r.2.2) ((eP r.1).1:Int) (eP r.1).2 μ):=by
     refine ck ?_;have:decide ((eP r.1).2=0)=false:=by simp[he]
     rw[Nq,this];rfl
    rw[h6,bx,P8,hsc,bB he,bB (by simp[he])]
  rw[h5,bx];have:fj μ.length (LV.ltup [LV.cv (CV.view [CV.str s,CV.bool fx,CV.sl (bS r.2.1),CV.sl (dR r.2.2)]),bv ((dn fx s).n:Int),bv (dn fx s).e])=true:=by simp only[fj,Dp,rT,af9];rfl
  split
  ·rw[P7,this,cK,hC]
  ·rw[P6,this,cK,hC]
 ·have:decide (ez s=0)=false:=by simp[ht]
  have hC:tD fx s=[CV.str s,CV.bool fx,CV.sl [],CV.sl []]:=by unfold tD;rw[bB ht]
  have hsc:dn fx s=⟨[],[],0,ez s⟩:=by unfold dn;rw[bB ht]
  rw[this,c8,bH,hC,hsc];rfl
def gS (fx:Bool)(s:List UInt8):List Tok:=if(dn fx s).e=0 then(dn fx s).toks else []
def tT (h:(dn fx s).e=0):ez s=0/\(dn fx s).n=(dn fx s).toks.length/\tD fx s=[CV.str s,CV.bool fx,CV.sl (bS (dn fx s).toks),CV.sl (dR (dn fx s).kept)]:=by
 by_cases ht:ez s=0
 ·refine⟨ht,?_,by unfold tD;rw[bC ht]⟩;unfold dn at h |-;rw[bC ht]at h |-;simp only at h |-;by_cases he:(eP (eN fx s (s.length+1) 0 [] []).1).2=0
  ·rw[bC he]at h |-;by_cases h3:300<(eN fx s (s.length+1) 0 [] []).2.1.length
   ·rw[bC h3]at h;exact absurd h bE
   ·rw[bB h3]
  ·rw[bB he]at h;exact absurd h he
 ·unfold dn at h;rw[bB ht]at h;exact absurd h ht
theorem GG {l:List CV}:lZ (LV.cv (CV.view l))=some false:=rfl
theorem JL {l:List CV}:iU (LV.cv (mt (CV.view l)))=some l:=rfl
theorem yU {t:List UInt8}:cg (LV.cv (CV.str t))=some t:=rfl
theorem JJ {t:Bool}:bO (LV.cv (CV.bool t))=some t:=rfl
def aii (hs:s.length<=200000):(ev E).call 85 [LV.str s,LV.bool fx] μ=some (.ret (.ltup [if(dn fx s).e=0 then LV.cv (CV.sl (bS (dn fx s).toks))else Oz,bv ((dn fx s).n:Int),bv (dn fx s).e]) μ):=by
 refine bW ?_;rw[akW,Zl hs];simp only[bQ,o5];by_cases he:(dn fx s).e=0
 ·have h1:decide ((dn fx s).e=0)=true:=by simp[he]
  obtain⟨_,_,hC⟩:=tT he;have hG:adN (ev E) (CV.view (tD fx s)) ((dn fx s).n:Int) μ=some (EE (bS (dn fx s).toks) ((dn fx s).n:Int) 0 μ):=by refine ck ?_;rw[afu,GG,bx,c8,cK,JL,bx,hC];simp only[bQ,yU,JJ]
  rw[h1,cS,bI,hG,bx,Wf,he];simp
 ·have h1:decide ((dn fx s).e=0)=false:=by simp[he]
  rw[h1,c8,bH,bB he];rfl
def aib (hs:s.length<=200000):(ev E).call 51 [LV.str s] μ=some (.ret (.ltup [LV.cv (CV.sl (bS (gS false s))),bv ((dn false s).n:Int),bv (dn false s).e]) μ):=by
 refine bW ?_;rw[akF,aii hs];unfold gS;by_cases he:(dn false s).e=0
 ·rw[bC he,bC he];rfl
 ·rw[bB he,bB he];rfl
def l8 (s:List UInt8):Option Tok:=if(dn false s).e=0/\(dn false s).n=1 then(dn false s).toks[0]? else none
def ahx:Option Tok->List LV
 |some t=>[.cv t.cv,LV.bool true]|none=>[.cv aed.cv,LV.bool false]
def agA (hs:s.length<=200000):(ev E).call 134 [LV.str s] μ=some (.ret (.ltup (ahx (l8 s))) μ):=by
 refine bW ?_;rw[aiJ,Zl hs];simp only[bQ,o5];unfold l8;by_cases he:(dn false s).e=0
 ·have h1:decide ((dn false s).e=0)=true:=by simp[he]
  rw[h1,cS,bI];by_cases hn:(dn false s).n=1
  ·have h2:decide (((dn false s).n:Int)=1)=true:=by simp[hn]
   obtain⟨_,hl,hC⟩:=tT he;rw[h2,cS,bI,bC ⟨he,hn⟩];obtain⟨t,ht⟩: ∃t,(dn false s).toks=[t]:=by rw[hn]at hl;exact xN.1 hl.symm
   have hG:Xj (ev E) (CV.view (tD false s)) 0 0 [] μ=some (Am true t.kind t.type t.text μ):=by refine ck ?_;rw[acp,GG,bx,c8,cK,JL,bx,hC,ht];simp only[bQ,yU,JJ];have:cT (bS [t]) (0:Int)=some t.cv:=rfl;rw[this,bx,iw]
   rw[hG,bx,Qc,ht];rfl
  ·have h2:decide (((dn false s).n:Int)=1)=false:=b7;rw[h2,c8,bH,bB (by simp[hn])];rfl
 ·have h1:decide ((dn false s).e=0)=false:=by simp[he]
  rw[h1,c8,bH,bB (by simp[he])];rfl
end
def WZ (a:Nat)(c:UInt8):Nat:=a*10+(c.toNat-48)
def valD (acc:Nat)(l:List UInt8):Nat:=l.foldl WZ acc
theorem nc (acc:Nat):valD acc []=acc:=rfl
def abp (c:UInt8)(r:List UInt8)(acc:Nat):valD acc (c::r)=valD (WZ acc c) r:=by unfold valD;rw[List.foldl_cons]
def gC (c:UInt8)(r:List UInt8)(acc:Nat):valD acc (c::r)=valD (acc*10+(c.toNat-48)) r:=by rw[abp];unfold WZ;exact Eq.refl _
def fP {c:UInt8}:bL c=true↔48<=c.toNat/\c.toNat<=57:=by unfold bL;rw[cE,dA,dA]
def Pj (c:UInt8)(l:List UInt8): ∀(acc:Nat),valD acc (l++[c])=valD acc l*10+(c.toNat-48):=by
 induction l with|nil=>intro acc;rw[eR,gC,nc,nc]|cons d r ih=>intro acc;rw[eH,gC,gC,ih]
def je: ∀(l:List UInt8) (acc:Nat),(∀b∈l,bL b=true)->acc*10^l.length<=valD acc l/\valD acc l<(acc+1)*10^l.length
 |[],acc,_=>by rw[nc,fL,Nat.pow_zero];omega|c::r,acc,h=>by
  have hc:=fP.1 (h c j7);obtain⟨h1,h2⟩:=je r (acc*10+(c.toNat-48)) (λb hb=>h b (fw _ hb));rw[gC];simp only[dz,xI];have e1:acc*(10^r.length*10)=(acc*10)*10^r.length:=by rw[xJ (10^r.length) 10,xG]
  have e2:(acc+1)*(10^r.length*10)=((acc+1)*10)*10^r.length:=by rw[xJ (10^r.length) 10,xG]
  rw[e1,e2];refine⟨iN (sI _ bu) h1,u1 h2 (sI _ bu)⟩
def xx: ∀(l:List UInt8) (acc:Nat),valD acc l=acc*10^l.length+valD 0 l
 |[],acc=>by simp[nc]|c::r,acc=>by rw[gC];simp only[dz,xI];rw[gC c r 0,xx r (acc*10+(c.toNat-48)),xx r (0*10+(c.toNat-48)),ow,Dq,fZ,IS];congr 1;rw[xJ (10^r.length) 10,xG]
def Ce: ∀(l:List UInt8) (acc:Nat),(∀b∈l,bL b=true)->(acc+1)*10^l.length<=10000000000->Lib.parseUint10 acc l= .ok (valD acc l)
 |[],acc,_,_=>rfl|c::r,acc,h,hb=>by
  have hc:=fP.1 (h c j7);have hp:1<=10^r.length:=Nat.pow_pos bu;have e2:(acc+1)*10^(c::r).length=((acc+1)*10)*10^r.length:=by simp only[dz,xI];rw[xJ (10^r.length) 10,xG]
  rw[e2]at hb;have h3:(acc+1)*10<=10000000000:=iN (IX _ hp) hb;simp only[Lib.parseUint10,gC];rw[bC hc,bB bu,bB bu];exact Ce r _ (λb hb=>h b (fw _ hb)) (iN (sI _ bu) hb)
def ja {l:List UInt8}(h: ∀b∈l,bL b=true)(h1:l≠[])(h2:l.length<=10):Lib.atoiAll l= .ok (valD 0 l:Nat):=by
 cases l with
 |nil=>exact absurd rfl h1|cons c r=>
  have hc:=fP.1 (h c j7);have hb:(0+1)*10^(c::r).length<=10000000000:=by have:10^(c::r).length<=10^10:=sH bu h2;omega
  have hp:=Ce (c::r) 0 h hb;have hlt:=(je (c::r) 0 h).2;rw[Lib.atoiAll_plain c r bu bu];unfold Lib.parseMag;rw[bB bE,hp];simp only[Lib.signless];rw[bB bu]
def yG {l:List UInt8}(h: ∀b∈l,bL b=true)(h1:l≠[])(h2:l.length<=10):Lib.atoiAll (45::l)= .ok (-(valD 0 l:Nat):Int):=by
 have hb:(0+1)*10^l.length<=10000000000:=by have:10^l.length<=10^10:=sH bu h2;omega
 have hp:=Ce l 0 h hb;have hlt:=(je l 0 h).2;rw[Lib.atoiAll_minus];unfold Lib.parseMag;rw[bB h1,hp];simp only[Lib.signed];rw[bB bu]
def d8:List UInt8->List UInt8
 |[]=>[]|[c]=>[c]|c::d::r=>if c=48 then d8 (d::r)else c::d::r
def Cx: ∀(l:List UInt8),valD 0 (d8 l)=valD 0 l
 |[]=>rfl|[c]=>rfl|c::d::r=>by
  unfold d8;split
  ·rename_i hc;rw[Cx (d::r)];subst hc;rfl
  ·rfl
def Cw: ∀(l:List UInt8),∀b∈d8 l,b∈l
 |[],b,hb=>hb|[c],b,hb=>hb|c::d::r,b,hb=>by
  unfold d8 at hb;split at hb
  ·exact fw _ (Cw (d::r) b hb)
  ·exact hb
def vU: ∀(l:List UInt8),(d8 l).length<=l.length
 |[]=>ct _|[c]=>ct _|c::d::r=>by
  unfold d8;split
  ·have:=vU (d::r);simp only[dz]at this |-;omega
  ·exact ct _
def mB (l:List UInt8):Prop:=l.length=1\/ ∃c r,l=c::r/\c≠48
def Hz: ∀(l:List UInt8),l≠[]->mB (d8 l)
 |[],h=>absurd rfl h|[c],_=>Or.inl rfl|c::d::r,_=>by
  unfold d8;split
  ·exact Hz (d::r) bE
  ·rename_i hc;exact Or.inr ⟨c,_,rfl,hc⟩
def Pk {c:UInt8}{r:List UInt8}(h: ∀b∈c::r,bL b=true)(hc:c≠48):1<=valD 0 (c::r):=by have h1:=fP.1 (h c j7);have h2:=(je r (0*10+(c.toNat-48)) (λb hb=>h b (fw _ hb))).1;have hp:1<=10^r.length:=Nat.pow_pos bu;have h3:c.toNat≠48:=λe=>hc (sM (by rw[e];rfl));have h4:1<=(0*10+(c.toNat-48))*10^r.length:=Nat.one_le_iff_ne_zero.2 (Nat.mul_ne_zero bu bu);simp only[gC,nc];omega
def Ih {u d:Nat}(hu:1<=u)(hd:d<=9):Lib.decDigits (u*10+d)=Lib.decDigits u++[UInt8.ofNat (48+d)]:=by rw[Lib.decDigits,dif_neg bu];have e1:(u*10+d) / 10=u:=bu;have e2:(u*10+d) % 10=d:=bu;rw[e1,e2]
def J2 {c:UInt8}(h:bL c=true):UInt8.ofNat (48+(c.toNat-48))=c:=by have h1:=fP.1 h;have:48+(c.toNat-48)=c.toNat:=bu;rw[this];simp
def Ii: ∀(n:Nat) (l:List UInt8),l.length=n->(∀b∈l,bL b=true)->mB l->Lib.decDigits (valD 0 l)=l:=by
 intro n
 induction n with
 |zero=>
  intro l hn _ hl;rcases hl with h|⟨c,r,rfl,_⟩
  ·omega
  ·simp at hn
 |succ n ih=>
  intro l hn hd hl;have hne:l≠[]:=by intro h;subst h;simp at hn
  have hsp:=Uy hne;have hc:bL (l.getLast hne)=true:=hd _ (List.getLast_mem hne);have hc':=fP.1 hc;by_cases h0:l.dropLast=[]
  ·rw[h0,eR]at hsp;rw[<-hsp];simp only[gC,nc];rw[Lib.decDigits_one bu,Dq,fZ,J2 hc]
  ·rcases hl with h|⟨c,r,e,hne2⟩
   ·exfalso;apply h0;apply iK;rw[Dk];omega
   ·have hdl: ∀b∈l.dropLast,bL b=true:=λb hb=>hd b (List.dropLast_subset _ hb);have hll: ∃r',l.dropLast=c::r':=by
     rw[e]at h0 |-;cases r with|nil=>simp at h0|cons d r=>exact⟨_,rfl⟩
    obtain⟨r',hr'⟩:=hll;have hp:1<=valD 0 l.dropLast:=by rw[hr']at hdl |-; exact Pk hdl hne2
    have:=ih l.dropLast (by rw[Dk];omega) hdl (Or.inr ⟨c,r',hr',hne2⟩);rw[<-hsp,Pj,Ih hp bu,this,J2 hc]
def aca {l:List UInt8}(h: ∀b∈l,bL b=true)(h1:l≠[]):Lib.itoa (valD 0 l:Nat)=d8 l:=by
 unfold Lib.itoa;rw[bB bu];have e:((valD 0 l:Nat):Int).toNat=valD 0 (d8 l):=by rw[Cx];omega
 rw[e];exact Ii _ _ rfl (λb hb=>h b (Cw l b hb)) (Hz l h1)
section
variable {s:List UInt8}{n:Nat}
theorem fE:atC false s n=(s[n]?).getD 0:=rfl
theorem gu:atE false s n=if n<s.length then n+1 else n:=rfl
def Cj {p:UInt8->Bool}(hp:p 0=false): ∀(l:List UInt8),j3 false p l 0=(l.takeWhile p,(l.takeWhile p).length)
 |[]=>rfl|c::r=>by
  have ih:=Cj hp r;unfold j3;rw[ih];by_cases h0:c=0
  ·subst h0;simp[hp]
  ·have h1:(c != 0)=true:=by simp[h0]
   cases hc:p c
   ·simp[hc]
   ·simp[hc,h1];omega
def gz {p:UInt8->Bool}(hp:p 0=false):fc false p s n=(s.drop n).takeWhile p:=by unfold fc;rw[Cj hp]
def g9 {p:UInt8->Bool}(hp:p 0=false):runE false p s n=n+((s.drop n).takeWhile p).length:=by unfold runE;rw[Cj hp]
def r9:cM 0=false:=cf
def gI:bL 0=false:=cf
def uD:cX 0=false:=cf
def dH (s:List UInt8)(n:Nat)(w:List UInt8):Bool:=decide (n+w.length<=s.length)&&decide (((s.drop n).take w.length).map upB=w)
def digR (s:List UInt8)(n:Nat):Nat:=((s.drop n).takeWhile bL).length
def tN:fc false bL s n=(s.drop n).take (digR s n)/\runE false bL s n=n+digR s n:=by rw[gz gI,g9 gI];refine⟨?_,rfl⟩;unfold digR;exact(IY.1 (xP _))
def Ze (w:List UInt8):Prop:= ∃v,w=46::v++[46]/\ ∀b∈v,65<=b.toNat/\b.toNat<=90
def Ur: ∀i:Fin 256,(upB (UInt8.ofNat i.val)=46->i.val=46)/\(65<=(upB (UInt8.ofNat i.val)).toNat/\(upB (UInt8.ofNat i.val)).toNat<=90->cM (UInt8.ofNat i.val)=true):=cf
def Uq {c:UInt8}(h:upB c=46):c=46:=by have:=(Ur ⟨c.toNat,c.toNat_lt⟩).1 (by simpa using h);exact sM this
def afW {c:UInt8}(h:65<=(upB c).toNat/\(upB c).toNat<=90):cM c=true:=by have:=(Ur ⟨c.toNat,c.toNat_lt⟩).2 (by simpa using h);simpa using this
def ky {p:UInt8->Bool}: ∀(l:List UInt8),∀c∈l.takeWhile p,p c=true
 |[],c,h=>by simp at h|d::r,c,h=>by
  rw[lx]at h;split at h
  ·rename_i hd;rcases ed.1 h with rfl|h
   ·exact hd
   ·exact ky r c h
  ·simp at h
def qY {p:UInt8->Bool}{d:UInt8}(hd:p d=false): ∀(v r:List UInt8),(∀b∈v,p b=true)->(v++d::r).takeWhile p=v
 |[],r,_=>by simp[hd]|c::v,r,h=>by have hc:=h c j7;rw[eH,lx,hc];simp only[cQ];rw[qY hd v r (λb hb=>h b (fw _ hb))]
def JS {v w:List UInt8}: ∀{l:List UInt8},l.map upB=v++w-> ∃a b,l=a++b/\a.map upB=v/\b.map upB=w:=by intro l h;obtain⟨a,b,e,h1,h2⟩:=List.map_eq_append_iff.1 h;exact⟨a,b,e,h1,h2⟩
def lX {w:List UInt8}(hw:Ze w)(h:dH s n w=true):atC false s n=46/\fM false s n=w/\atC false s (runE false cM s (atE false s n))=46/\dotEnd false s n=n+w.length:=by
 obtain⟨v,rfl,hv⟩:=hw;simp only[dH,cE,dA]at h;obtain⟨hlen,hm⟩:=h;rw[eH]at hm hlen;simp only[dz,ef,fL]at hlen hm;obtain⟨a,b,he,ha,hb⟩:=JS (v:=[46]) (w:=v++[46]) hm;obtain⟨b1,b2,he2,hb1,hb2⟩:=JS hb;obtain⟨x,rfl⟩: ∃x,a=[x]:=by
  cases a with
  |nil=>simp at ha|cons x t=>cases t with
   |nil=>exact⟨x,rfl⟩|cons y t=>simp at ha
 obtain⟨y,rfl⟩: ∃y,b2=[y]:=by
  cases b2 with
  |nil=>simp at hb2|cons x t=>cases t with
   |nil=>exact⟨x,rfl⟩|cons y t=>simp at hb2
 have hx:x=46:=Uq (by simpa using ha);have hy:y=46:=Uq (by simpa using hb2);subst hx hy;have hb1l:b1.length=v.length:=by rw[<-hb1,ly]
 have hlet: ∀c∈b1,cM c=true:=by intro c hc;exact afW (hv _ (by rw[<-hb1];exact List.mem_map_of_mem hc))
 have hd:s.drop n=46::(b1++46::(s.drop (n+v.length+2))):=by have h1:=Uu (v.length+(0+1)+1) (s.drop n);rw[he,he2,ib]at h1;rw[<-h1];simp only[eH,eR,hZ];congr 4
 have hn:n<s.length:=bu;have h0:s[n]? =some 46:=by
  have:(s.drop n)[0]? =some 46:=by rw[hd];rfl
  rw[u0]at this;simpa using this
 have hd1:s.drop (n+1)=b1++46::(s.drop (n+v.length+2)):=by
  have:(s.drop n).drop 1=b1++46::(s.drop (n+v.length+2)):=by rw[hd];rfl
  rw[ib]at this;exact this
 have hr:(s.drop (n+1)).takeWhile cM=b1:=by rw[hd1];exact qY cf _ _ hlet
 have hE:atE false s n=n+1:=by rw[gu,bC hn]
 have hR:runE false cM s (n+1)=n+1+v.length:=by rw[g9 r9,hr,hb1l]
 have h46:s[n+1+v.length]? =some 46:=by
  have:(s.drop (n+1))[b1.length]? =some 46:=by rw[hd1,jy (ct _),t8];rfl
  rw[u0,hb1l]at this;exact this
 refine⟨by rw[fE,h0];rfl,?_,?_,?_⟩
 ·unfold fM;rw[hE,gz r9,hr];have:up b1=v:=by unfold up;rw[q5 b1 (λb hb=>rn (hlet b hb)),hb1]
  rw[this];rfl
 ·rw[hE,hR,fE,h46];rfl
 ·unfold dotEnd;rw[hE,hR,gu,bC bu];simp only[ef,dz,fL];omega
def Kv {w:List UInt8}(h0:atC false s n=46)(h1:fM false s n=w)(h2:atC false s (runE false cM s (atE false s n))=46):dH s n w=true:=by
 have hn:n<s.length:=by
  rcases fu n s.length with h|h
  ·exact h
  ·rw[fE,eB h]at h0;simp at h0
 have hE:atE false s n=n+1:=by rw[gu,bC hn]
 rw[hE,g9 r9,fE]at h2;have hg:s[n]? =some 46:=by rw[fE,dK hn]at h0;rw[dK hn];simpa using h0
 have hd:s.drop n=46::s.drop (n+1):=by rw[dY hn];rw[dK hn]at hg;injection hg with hg;rw[hg]
 obtain⟨v,hv⟩: ∃v,v=(s.drop (n+1)).takeWhile cM:=⟨_,rfl⟩;rw[<-hv]at h2;have hm:n+1+v.length<s.length:=by
  rcases fu (n+1+v.length) s.length with h|h
  ·exact h
  ·rw[eB h]at h2;simp at h2
 have hg2:s[n+1+v.length]=46:=by rw[dK hm]at h2;simpa using h2
 have hp:s.drop (n+1)=v++s.drop (n+1+v.length):=by
  have h3:v <+: s.drop (n+1):=by rw[hv];exact xP _
  have h4:=List.prefix_iff_eq_append.1 h3;rw[ib]at h4;exact h4.symm
 have hd2:s.drop (n+1+v.length)=46::s.drop (n+1+v.length+1):=by rw[dY hm,hg2]
 have hlet: ∀c∈v,cM c=true:=by intro c hc;rw[hv]at hc;exact ky _ c hc
 have hT:fM false s n=[46]++v.map upB++[46]:=by unfold fM;rw[hE,gz r9,<-hv];unfold up;rw[q5 v (λb hb=>rn (hlet b hb))]
 have hwl:w.length=v.length+2:=by rw[<-h1,hT];simp
 simp only[dH,cE,dA];refine⟨bu,?_⟩;rw[hwl,hd,hp,hd2];have e:(46::(v++46::s.drop (n+1+v.length+1)))=(46::v++[46])++s.drop (n+1+v.length+1):=bE;rw[e,xF bE,<-h1,hT];simp[upB]
end
section
variable {μ:Mu}
def ie {n m:Nat}(h:n<m):decide ((n:Int)<(m:Int))=true:=b7
def iG {n m:Nat}(h:m<=n):decide ((n:Int)<(m:Int))=false:=b7
def akv {n m:Nat}(h:n<=m):decide ((n:Int)<=(m:Int))=true:=b7
def aku {n m:Nat}(h:m<n):decide ((n:Int)<=(m:Int))=false:=b7
def eT {s:List UInt8}{n:Nat}(h:n<s.length):dm s (n:Int)=some s[n]:=by rw[sA,dK h]
def dy {n:Nat}(h:n<=1000000000):IntKind.wrap .i64 ((n:Int)+1)=((n+1:Nat):Int):=by rw[el bu bu];omega
def my {n m:Nat}(h:n+m<=1000000000):IntKind.wrap .i64 ((n:Int)+(m:Int))=((n+m:Nat):Int):=by rw[el bu bu];omega
def alj {n m:Nat}(h:n<=1000000000)(h2:m<=n):IntKind.wrap .i64 ((n:Int) -(m:Int))=((n-m:Nat):Int):=by rw[el bu bu];omega
def aer {n:Nat}(h:n<=1000000000)(h2:1<=n):IntKind.wrap .i64 ((n:Int) -1)=((n-1:Nat):Int):=by rw[el bu bu];omega
def abX {s:List UInt8}{n:Nat}(h:n<s.length):gc s (n:Int) ((n+1:Nat):Int)=some [s[n]]:=by rw[ku bu bu,dY h];have:n+1-n=1:=bu;rw[this];rfl
def GL {c:UInt8}:(ev E).call 106 [LV.int .u8 (c.toNat:Int)] μ=some (.ret (LV.bool (bL c)) μ):=by refine bW ?_;rw[ait];have e1:decide ((48:Int)<=(c.toNat:Int))=decide (48<=c.toNat):=dI 48 _;have e2:decide ((c.toNat:Int)<=57)=decide (c.toNat<=57):=dI _ 57;rw[e1,e2];unfold bL;cases decide (48<=c.toNat)<;>rfl
def Zh {c:UInt8}:(ev E).call 105 [LV.int .u8 (c.toNat:Int)] μ=some (.ret (LV.bool (cM c)) μ):=by refine bW ?_;rw[ais];have e1:decide ((97:Int)<=(c.toNat:Int))=decide (97<=c.toNat):=dI 97 _;have e2:decide ((c.toNat:Int)<=122)=decide (c.toNat<=122):=dI _ 122;have e3:decide ((65:Int)<=(c.toNat:Int))=decide (65<=c.toNat):=dI 65 _;have e4:decide ((c.toNat:Int)<=90)=decide (c.toNat<=90):=dI _ 90;rw[e1,e2,e3,e4];unfold cM;cases decide (97<=c.toNat)<;>cases decide (c.toNat<=122)<;>cases decide (65<=c.toNat)<;>cases decide (c.toNat<=90)<;>rfl
def yZ {a b c:Int}:(ev E).call 30 [bv a,bv b,bv c] μ=some (.ret (LV.bool (decide (b<=a)&&decide (a<=c))) μ):=by
 refine bW ?_;rw[akB];by_cases h:a<b
 ·have h1:decide (a<b)=true:=by simp[h]
  have h2:decide (b<=a)=false:=b7;rw[h1,h2];rfl
 ·have h1:decide (a<b)=false:=b7;have h2:decide (b<=a)=true:=b7;have h3:(!decide (c<a))=decide (a<=c):=by
   by_cases h4:c<a
   ·have: ¬a<=c:=bu;simp[h4,this]
   ·have:a<=c:=bu;simp[h4,this]
  rw[h1,h2,h3];rfl
def ahc: ∀(k:Nat) (p l:List UInt8),l.length=k->p.length+k<=1000000->
 wD (ev E) (p.length+k) (p.length:Int) (dD (p++l)) μ=some (vu (p.length+k) (dD (p++l.map upB)) μ):=by
 intro k
 induction k with
 |zero=>intro p l hl hp;have:l=[]:=iK hl;subst this;refine cC ?_;rw[ND,iG bu,bI];rfl|succ k ih=>
  intro p l hl hp;cases l with
  |nil=>simp at hl|cons c r=>
   simp only[dz]at hl;refine cC ?_;have hr:fo (p.length:Int) (p.length+(k+1))=true:=by simp[fo];omega
   have ho:cw E.P 5 (Ob.arr 1 (dD (p++c::r))) (0+((p.length:Int)).toNat*1)=some (LV.int .u8 (c.toNat:Int)):=by
    have e1:0+((p.length:Int)).toNat*1=p.length:=bu;rw[e1];have e2:cw E.P 5 (Ob.arr 1 (dD (p++c::r))) p.length=opt ((dD (p++c::r))[p.length]?) λc=>some (.cv c):=bw;have e3:(dD (p++c::r))[p.length]? =some (CV.int .u8 (c.toNat:Int)):=by unfold dD;rw[gM,jy (ct _),t8];rfl
    rw[e2,e3];rfl
   have hn:wD (ev E) (p.length+(k+1)) (IntKind.wrap .i64 ((p.length:Int)+1)) (dD (p++upB c::r)) μ=some (vu (p.length+(k+1)) (dD (p++(c::r).map upB)) μ):=by have:=ih (p++[upB c]) r bu b7;have e1:(p++[upB c]).length+k=p.length+(k+1):=b7;have e2:(((p++[upB c]).length:Nat):Int)=((p.length+1:Nat):Int):=bE;rw[e1,e2]at this;rw[dy bu];have e3:p++[upB c]++r=p++upB c::r:=bE;have e4:p++[upB c]++r.map upB=p++(c::r).map upB:=bE;rw[e3,e4]at this;exact this
   rw[ND,ie bu,bH,hr,cK,ho];simp only[bQ];have e1:decide ((97:Int)<=(c.toNat:Int))=decide (97<=c.toNat):=dI 97 _;have e2:decide ((c.toNat:Int)<=122)=decide (c.toNat<=122):=dI _ 122;rw[e1,e2];by_cases h1:97<=c.toNat
   ·by_cases h2:c.toNat<=122
    ·have hu:upB c=c-32:=by unfold upB;rw[bC ⟨h1,h2⟩]
     have hc:(c-32).toNat=c.toNat-32:=by
      rw[UInt8.toNat_sub_of_le]
      ·rfl
      ·rw[UInt8.le_iff_toNat_le];show 32<=c.toNat;omega
     have w1:IntKind.wrap .u8 ((c.toNat:Int) -97)=(c.toNat:Int) -97:=Xe bu bu;have w2:IntKind.wrap .u8 ((c.toNat:Int) -97+65)=((upB c).toNat:Int):=by rw[Xe bu bu,hu,hc];omega
     have hs:dG (dD (p++c::r)) (0+((p.length:Int)).toNat*1) (CV.cells (CV.int .u8 ((upB c).toNat:Int)))=dD (p++upB c::r):=by have e1:0+((p.length:Int)).toNat*1=p.length:=bu;rw[e1];show ((dD (p++c::r)).set p.length (CV.int .u8 ((upB c).toNat:Int)))=_;unfold dD;rw[uZ,uZ,List.set_append,bB bE];simp
     have hg:(fJ 1 (CV.int .u8 ((upB c).toNat:Int))&&Nat.ble (0+((p.length:Int)).toNat*1+1) (dD (p++c::r)).length)=true:=by have e1:0+((p.length:Int)).toNat*1+1=p.length+1:=bu;rw[e1,n0];have:fJ 1 (CV.int .u8 ((upB c).toNat:Int))=true:=rfl;rw[this,ic];simp
     simp only[h1,h2,iB,bQ,hr];rw[w1,w2,hg,cK,hs,hn]
    ·have hu:upB c=c:=by unfold upB;rw[bB bu]
     rw[hu]at hn;simp only[h1,h2,iB,oy,bQ,hr];rw[hn]
   ·have hu:upB c=c:=by unfold upB;rw[bB bu]
    rw[hu]at hn;simp only[h1,oy,bQ];rw[hn]
def Zi {s:List UInt8}(hs:s.length<=1000000):(ev E).call 107 [LV.str s] μ=some (.ret (LV.str (s.map upB)) μ):=by
 refine bW ?_;have:=ahc (μ:=μ) s.length [] s rfl (by simpa using hs);simp only[fL,fZ,eR]at this;have e0:((0:Nat):Int)=0:=rfl;rw[e0]at this;rw[aiu,dV bu,cK,this,bx,Q4];have h1:(List.take s.length (List.drop 0 (dD (s.map upB))))=dD (s.map upB):=by rw[d7,IZ];rw[n0,ly];exact ct _
 have h2:Nat.ble (0+s.length) (dD (s.map upB)).length=true:=by rw[n0,ly];simp
 rw[h1,h2,cK,gv,bx]
def uF {s w:List UInt8}{n:Nat}(hs:s.length<=200000)(hn:n<=s.length)(hw:w.length<=200000):(ev E).call 110 [LV.str s,bv (n:Int),LV.str w] μ=some (.ret (LV.bool (dH s n w)) μ):=by
 refine bW ?_;rw[aix,my bu];unfold dH;by_cases h:n+w.length<=s.length
 ·rw[akv h,bH,ku bu h,bx];have e:n+w.length-n=w.length:=bu;rw[e,Zi b7];simp only[bQ];simp[h]
 ·rw[aku bu,bI];simp[h]
def ag5 {s:List UInt8}(hs:s.length<=200000){n:Nat}(hn:n<=s.length): ∀(k m:Nat),n+m+k=s.length->Ly (ev E) s (n:Int) (m:Int) μ=some (vw ((m+digR s (n+m):Nat):Int) μ):=by
 intro k
 induction k with
 |zero=>intro m hm;refine cC ?_;rw[NI,my bu,iG bu,bI];have:s.drop (n+m)=[]:=dS bu;simp[digR,this]|succ k ih=>
  intro m hm;refine cC ?_;have hlt:n+m<s.length:=bu;rw[NI,my bu,ie bu,bH,eT hlt,bx,GL];simp only[bQ];have hd:s.drop (n+m)=s[n+m]::s.drop (n+m+1):=dY hlt;cases hc:bL s[n+m]with|true=>rw[bH,dy bu,ih (m+1) bu];unfold digR;rw[hd,lx,hc];simp only[cQ,dz];have:n+(m+1)=n+m+1:=bu;rw[this];congr 3;omega|false=>rw[bI];unfold digR;rw[hd,lx,hc];simp
def GO {s:List UInt8}(hs:s.length<=200000){n:Nat}(hn:n<=s.length):(ev E).call 142 [LV.str s,bv (n:Int)] μ=some (.ret (bv (digR s n:Nat)) μ):=by refine bW ?_;have:=ag5 (μ:=μ) hs hn (s.length-n) 0 bu;have e0:((0:Nat):Int)=0:=rfl;rw[e0,fZ,j8]at this;rw[aiP,this,bx,Rd]
def wU {s:List UInt8}{n:Nat}(hn:n<=s.length):n+digR s n<=s.length:=by unfold digR;have:=(List.takeWhile_sublist bL (l:=s.drop n)).length_le;rw[fY]at this;omega
def Zn {t:List UInt8}:(ev E).call 145 [LV.str t] μ=some (.ret (LV.str (dx t)) μ):=by refine bW ?_;rw[aiS];unfold dx;by_cases h:t=[]<;>simp[h]
def ZO: ∀(s:List UInt8),s.length<=1000000->LA (ev E) s μ=some (vx (d8 s) μ)
 |[],_=>cC (by rw[Fp];rfl)|[c],_=>cC (by rw[Fp];rfl)|c::d::r,h=>by
  have e48: ∀c:UInt8,decide ((c.toNat:Int)=48)=decide (c=48):=λc=>eZ (k:=48) bu;simp only[dz]at h;refine cC ?_;have h1:decide ((1:Int)<((c::d::r).length:Int))=true:=b7;have h2:dm (c::d::r) (0:Int)=some c:=rfl;have h3:=yM (l:=c::d::r) (a:=1) bE;have e1:((1:Nat):Int)=1:=rfl;rw[e1]at h3;rw[Fp,h1,bH,h2,bx,e48,h3,bx];unfold d8;by_cases hc:c=48
  ·have:decide (c=48)=true:=by simp[hc]
   rw[this,bH,bC hc];exact ZO (d::r) b7
  ·have:decide (c=48)=false:=by simp[hc]
   rw[this,bI,bB hc]
def Zm {s:List UInt8}(hs:s.length<=1000000):(ev E).call 144 [LV.str s] μ=some (.ret (LV.str (d8 s)) μ):=by refine bW ?_;rw[aiR,ZO s hs,bx,Rg]
def na (s:List UInt8):List UInt8:=(d8 s.reverse).reverse
def ae5: ∀(k:Nat) (s:List UInt8),s.length=k->s.length<=1000000->LB (ev E) s μ=some (vy (na s) μ):=by
 have e48: ∀c:UInt8,decide ((c.toNat:Int)=48)=decide (c=48):=λc=>eZ (k:=48) bu;intro k
 induction k with
 |zero=>intro s hk h;have:s=[]:=iK hk;subst this;exact cC (by rw[Fq];rfl)|succ k ih=>
  intro s hk h;refine cC ?_;have hne:s≠[]:=by intro e;subst e;simp at hk
  have hsp:=Uy hne;have hrev:s.reverse=s.getLast hne::s.dropLast.reverse:=by
   conv=>lhs;rw[<-hsp]
   simp
  by_cases h1:1<s.length
  ·have e1:decide ((1:Int)<(s.length:Int))=true:=b7;have hdl:s.dropLast.length=s.length-1:=Dk;obtain⟨d,r,hr⟩: ∃d r,s.dropLast.reverse=d::r:=by
    cases hx:s.dropLast.reverse with
    |nil=>
     have:s.dropLast.length=0:=by rw[<-List.length_reverse,hx];rfl
     omega
    |cons d r=>exact⟨d,r,rfl⟩
   have hl:dm s ((s.length-1:Nat):Int)=some (s.getLast hne):=by rw[eT bu,List.getLast_eq_getElem]
   have hcut:gc s (0:Int) ((s.length-1:Nat):Int)=some s.dropLast:=by have:=ku (l:=s) (a:=0) (e:=s.length-1) bu bu;have e0:((0:Nat):Int)=0:=rfl;rw[e0]at this;rw[this,d7,ua,List.dropLast_eq_take]
   rw[Fq,e1,bH,aer bu bu,hl,bx,e48,hcut,bx];by_cases hc:s.getLast hne=48
   ·have:decide (s.getLast hne=48)=true:=by simp[hc]
    rw[this,bH,ih s.dropLast bu bu];unfold na;rw[hrev,hr,d8,bC hc]
   ·have:decide (s.getLast hne=48)=false:=by simp[hc]
    rw[this,bI];unfold na;rw[hrev,hr,d8,bB hc,<-hr,<-hrev,List.reverse_reverse]
  ·have e1:decide ((1:Int)<(s.length:Int))=false:=b7;rw[Fq,e1,bI];have hd:s.dropLast=[]:=iK (by rw[Dk];omega);unfold na;rw[hrev,hd];rw[hd,eR]at hsp;rw[List.reverse_nil,d8,List.reverse_singleton,hsp]
def agD {s:List UInt8}(hs:s.length<=1000000):(ev E).call 146 [LV.str s] μ=some (.ret (LV.str (na s)) μ):=by refine bW ?_;rw[aiT,ae5 _ s rfl hs,bx,Ri]
def countR (s:List UInt8):Nat:=if s=[48]then 0 else s.length
def Zo {s:List UInt8}:(ev E).call 147 [LV.str s] μ=some (.ret (bv (countR s:Nat)) μ):=by
 refine bW ?_;rw[aiU];unfold countR;by_cases h:s=[48]
 ·simp[h]
 ·simp[h]
def ae4 {s:List UInt8}(hs:s.length<=9)(hd: ∀b∈s,bL b=true): ∀(k m acc:Nat),m+k=s.length->(acc+1)*10^k<=1000000000->Lz (ev E) s (acc:Int) (m:Int) μ=some (A2 (valD acc (s.drop m):Nat) μ):=by
 intro k
 induction k with
 |zero=>intro m acc hm ha;refine cC ?_;rw[NJ,iG bu,bI,dS bu];rfl|succ k ih=>
  intro m acc hm ha;have hp:1<=10^k:=Nat.pow_pos bu;have e2:(acc+1)*10^(k+1)=((acc+1)*10)*10^k:=by rw[xI,xJ (10^k) 10,xG]
  rw[e2]at ha;have h3:(acc+1)*10<=1000000000:=iN (IX _ hp) ha;have hlt:m<s.length:=bu;have hc:=fP.1 (hd s[m] (md hlt));refine cC ?_;have w1:IntKind.wrap .u8 ((s[m].toNat:Int) -48)=((s[m].toNat-48:Nat):Int):=by rw[Xe bu bu];omega
  have w2:IntKind.wrap .i64 ((s[m].toNat-48:Nat):Int)=((s[m].toNat-48:Nat):Int):=el bu bu;have w3:IntKind.wrap .i64 (10*(acc:Int))=((10*acc:Nat):Int):=by rw[el bu bu];omega
  have w4:IntKind.wrap .i64 (((10*acc:Nat):Int)+((s[m].toNat-48:Nat):Int))=((acc*10+(s[m].toNat-48):Nat):Int):=by rw[el bu bu];omega
  rw[NJ,ie hlt,bH,eT hlt,bx,w1,w2,w3,w4,dy bu,ih (m+1) _ bu (iN (sI _ bu) ha),dY hlt,gC]
def agC {s:List UInt8}(hs:s.length<=9)(hd: ∀b∈s,bL b=true):(ev E).call 143 [LV.str s] μ=some (.ret (bv (valD 0 s:Nat)) μ):=by
 refine bW ?_;have hp:(0+1)*10^s.length<=1000000000:=by have:10^s.length<=10^9:=sH bu hs;omega
 have:=ae4 (μ:=μ) hs hd s.length 0 0 bu hp;have e0:((0:Nat):Int)=0:=rfl;rw[e0,d7]at this;rw[aiQ,this,bx,Rf]
def aem (n:Nat):Int.tdiv (n:Int) 10=((n / 10:Nat):Int):=by exact rfl
def aeo (n:Nat):Int.tmod (n:Int) 10=((n % 10:Nat):Int):=by exact rfl
def oG {n:Nat}:Lib.itoa (n:Int)=Lib.decDigits n:=by unfold Lib.itoa;rw[bB bu];rfl
def Fd {n:Nat}(h:1<=n):Lib.itoa (-(n:Int))=45::Lib.decDigits n:=by unfold Lib.itoa;rw[bC bu];congr 2;omega
def aeP: ∀d:Fin 10,gc ([48,49,50,51,52,53,54,55,56,57]:List UInt8) (d.val:Int) ((d.val+1:Nat):Int)=some [UInt8.ofNat (48+d.val)]:=cf
def wT {n:Nat}(h:n<18446744073709551616):(Lib.decDigits n).length<=20:=by rw[Lib.decDigits_length];exact Lib.nDigits_le20 n h
def It: ∀(n:Nat),n<=1000000000->(ev E).call 148 [bv (n:Int)] μ=some (.ret (LV.str (Lib.decDigits n)) μ):=by
 intro n
 induction n using Nat.strongRecOn with
 |_ n ih=>
  intro hn;refine bW ?_;have h0:decide ((n:Int)<0)=false:=bE;rw[aea,h0,bI];have hG:Xl (ev E) (n:Int) μ=some (vc (Lib.decDigits n) μ):=by
   refine ck ?_;rw[acr];by_cases h9:9<n
   ·have e9:decide ((9:Int)<(n:Int))=true:=b7;have w1:IntKind.wrap .i64 (Int.tdiv (n:Int) 10)=((n / 10:Nat):Int):=by have:Int.tdiv (n:Int) 10=((n / 10:Nat):Int):=aem n;rw[this,el bu bu]
    have w2:Int.tmod (n:Int) 10=((n % 10:Nat):Int):=aeo n;have hd1:(Lib.decDigits (n / 10)).length<=20:=wT bu;have hd2:(Lib.decDigits (n % 10)).length<=20:=wT bu;rw[e9,bH,w1,ih (n / 10) bu bu];simp only[bQ];rw[w2,ih (n % 10) bu bu];simp only[bQ];rw[dV bu,cK];have:Lib.decDigits (n % 10)=[UInt8.ofNat (48+n % 10)]:=Lib.decDigits_one bu;rw[this];have e:=Ih (u:=n / 10) (d:=n % 10) bu bu;have e2:n / 10*10+n % 10=n:=bu;rw[e2]at e;rw[e]
   ·have e9:decide ((9:Int)<(n:Int))=false:=b7;rw[e9,bI,dy bu];have:=aeP ⟨n,bu⟩;simp only at this;rw[this,bx,Lib.decDigits_one bu]
  rw[hG,bx,Qe]
def aeY: ∀(n:Nat),1<=n->n<=1000000000->(ev E).call 148 [bv (-(n:Int))] μ=some (.ret (LV.str (45::Lib.decDigits n)) μ):=by
 intro n
 induction n using Nat.strongRecOn with
 |_ n ih=>
  intro h1 hn;refine bW ?_;have h0:decide (-(n:Int)<0)=true:=b7;rw[aea,h0,bH];by_cases h9:9<n
  ·have e9:decide ((-10:Int)< -(n:Int))=false:=b7;rw[e9,bI];have hG:Xk (ev E) (-(n:Int)) μ=some (An (45::Lib.decDigits n) μ):=by
    refine ck ?_;have w1:IntKind.wrap .i64 (Int.tdiv (-(n:Int)) 10)= -((n / 10:Nat):Int):=by
     have:Int.tdiv (-(n:Int)) 10= -((n / 10:Nat):Int):=by rw[Int.neg_tdiv,aem]
     rw[this,el bu bu]
    have w2:IntKind.wrap .i64 (0-Int.tmod (-(n:Int)) 10)=((n % 10:Nat):Int):=by
     have:Int.tmod (-(n:Int)) 10= -((n % 10:Nat):Int):=by rw[Int.neg_tmod,aeo]
     rw[this,el bu bu];omega
    have hd1:(Lib.decDigits (n / 10)).length<=20:=wT bu;have hd2:(Lib.decDigits (n % 10)).length<=20:=wT bu;rw[acq,w1,ih (n / 10) bu bu bu];simp only[bQ];rw[w2,It (n % 10) bu];simp only[bQ];rw[dV b7,cK];have:Lib.decDigits (n % 10)=[UInt8.ofNat (48+n % 10)]:=Lib.decDigits_one bu;rw[this];have e:=Ih (u:=n / 10) (d:=n % 10) bu bu;have e2:n / 10*10+n % 10=n:=bu;rw[e2]at e;rw[e];rfl
   rw[hG,bx,Qd]
  ·have e9:decide ((-10:Int)< -(n:Int))=true:=b7;have w1:IntKind.wrap .i64 (0- -(n:Int))=(n:Int):=by rw[el bu bu];omega
   have hd2:(Lib.decDigits n).length<=20:=wT bu;rw[e9,bH,w1,It n bu];simp only[bQ];rw[dV b7,cK];rfl
def agE {n:Int}(h0: -1000000000<=n)(h1:n<=1000000000):(ev E).call 148 [bv n] μ=some (.ret (LV.str (Lib.itoa n)) μ):=by
 by_cases h:0<=n
 ·obtain⟨m,rfl⟩: ∃m:Nat,n=(m:Int):=⟨n.toNat,bu⟩;rw[oG];exact It m bu
 ·obtain⟨m,rfl⟩: ∃m:Nat,n= -(m:Int):=⟨(-n).toNat,bu⟩;rw[Fd bu];exact aeY m bu bu
def ag4 {s:List UInt8}(hs:s.length<=200000): ∀(k m:Nat) (acc:List UInt8),m+k=s.length->acc.length<=1+2*m->FR (ev E) s acc (m:Int) μ=some (A3 (acc++dbl (s.drop m)) μ):=by
 have e39: ∀c:UInt8,decide ((c.toNat:Int)=39)=decide (c=39):=λc=>eZ (k:=39) bu;intro k
 induction k with
 |zero=>intro m acc hm ha;refine cC ?_;rw[NK,iG bu,bI,dS bu];simp[dbl]|succ k ih=>
  intro m acc hm ha;have hlt:m<s.length:=bu;refine cC ?_;rw[NK,ie hlt,bH,dy bu,abX hlt,bx,dV b7,cK,eT hlt,bx,e39,dY hlt,dbl];by_cases hc:s[m]=39
  ·have:decide (s[m]=39)=true:=by simp[hc]
   rw[this,bH,dV b7,cK,ih (m+1) _ bu b7,bC hc,hc];simp
  ·have:decide (s[m]=39)=false:=by simp[hc]
   rw[this,bI,ih (m+1) _ bu b7,bB hc];simp
def agF {s:List UInt8}(hs:s.length<=200000):(ev E).call 149 [LV.str s] μ=some (.ret (LV.str (dZ s)) μ):=by refine bW ?_;have:=ag4 (μ:=μ) hs s.length 0 [39] bu bE;have e0:((0:Nat):Int)=0:=rfl;have hd:=CU s;rw[e0,d7]at this;rw[aiV,this,bx,Rj,dV b7,cK];rfl
def ags {s:List UInt8}{m:Int}(hs:s.length<=200000):(ev E).call 104 [LV.str s,bv m] μ=some (.ret (LV.bool (!decide (m<(s.length:Int))&&jT s)) μ):=by
 have hl: ∀(k n:Nat),n+k=s.length->Lw (ev E) s (n:Int) μ=some (if jT (s.drop n)then AU μ else AT false μ):=by
  intro k
  induction k with
  |zero=>intro n hn;refine cC ?_;rw[NC,iG bu,bI,dS bu];rfl|succ k ih=>
   intro n hn;have hlt:n<s.length:=bu;refine cC ?_;have w:IntKind.wrap .i64 (s[n].toNat:Int)=(s[n].toNat:Int):=by have:=s[n].toNat_lt;rw[el bu bu]
   rw[NC,ie hlt,bH,eT hlt,bx,w,yZ];simp only[bQ];rw[dy bu,ih (n+1) bu,dY hlt];have e1:decide ((32:Int)<=(s[n].toNat:Int))=decide (32<=s[n].toNat):=dI 32 _;have e2:decide ((s[n].toNat:Int)<=126)=decide (s[n].toNat<=126):=dI _ 126;rw[e1,e2];have hT:jT (s[n]::s.drop (n+1))=((decide (32<=s[n].toNat)&&decide (s[n].toNat<=126))&&jT (s.drop (n+1))):=by
    unfold jT;rw[qp];by_cases h1:32<=s[n].toNat
    ·by_cases h2:s[n].toNat<=126
     ·have h3: ¬s[n].toNat<32:=bu;have h4: ¬126<s[n].toNat:=bu;simp[h1,h2,h3,h4]
     ·have h4:126<s[n].toNat:=bu;simp[h2,h4]
    ·have h3:s[n].toNat<32:=bu;simp[h1,h3]
   rw[hT];cases decide (32<=s[n].toNat)&&decide (s[n].toNat<=126)<;>rfl
 refine bW ?_;rw[air];by_cases hm:m<(s.length:Int)
 ·have:decide (m<(s.length:Int))=true:=by simp[hm]
  rw[this];rfl
 ·have:decide (m<(s.length:Int))=false:=by simp[hm]
  have h0:=hl s.length 0 bu;have e0:((0:Nat):Int)=0:=rfl;rw[e0,d7]at h0;have hG:Xf (ev E) s μ=some (u6 (jT s) μ):=by
   refine ck ?_;rw[ack,h0,bx];cases jT s with|true=>exact Q3 _ _|false=>exact Q2 _ _ _
  rw[this,bI,hG,bx,P0];rfl
def adY {s:List UInt8}(hs:s.length<=200000):(ev E).call 62 [LV.str s] μ=some (.ret (bv (ez s)) μ):=by
 refine bW ?_;rw[akO,ags hs];simp only[bQ];unfold ez;by_cases h:1320<s.length
 ·have:decide ((1320:Int)<(s.length:Int))=true:=b7;rw[this,bC h];rfl
 ·have:decide ((1320:Int)<(s.length:Int))=false:=b7;rw[this,bB h];cases jT s<;>rfl
def ahN (x y:Tok):(decide (x.kind=y.kind)&&(decide (x.type=y.type)&&(decide (x.text=y.text)&&true)))=decide (x=y):=by cases x;cases y;simp[Bool.decide_and]
end
end Go.Abs
