/-
  The statement ExprTokensCardSaid, proved; part 11 of 11 of its proof.
  Reading an expression: the reference reads as the parser; levels.
-/
import Derived.Test.YtmemoghbijcebaaGreatDoorT9
import Derived.Test.YtmemoghbijcebaaGreatDoorT8
import Derived.KernelRfl
import Derived.Test.YtmemoghbijcebaaGreatDoorT7
import Derived.Test.YtmemoghbijcebaaGreatDoorT4
import Derived.Shelf.Strings.BuilderK
import Derived.RangeFuncBox
import Derived.RangeFuncLeaves
import Derived.Shelf.Abstract
import Derived.WalkKit
import Derived.OwnWalkIn
import Derived.TacticsInMore
import Derived.LoopNIn
import Derived.LoopIn
import Derived.Test.YtmemoghbijcebaaGreatDoorProg
import Derived.Test.YtmemoghbijcebaaGreatDoorRows
import Derived.JoinedCond
import Derived.Test.YtmemoghbijcebaaGreatDoorCards
import Derived.Test.YtmemoghbijcebaaGreatDoorTie
import Derived.OpenShut
set_option linter.all false
set_option maxRecDepth 100000
namespace Go.Abs
open Go Go.Proofs
def NdR (c:CV)(x:Nd):Prop:= ∃A,c=CV.agg [bF x.kind,bF x.typ,CV.str x.text,A]/\cj (LV.cv A)=some (dQ x.args)
def dL (xs:List CV)(e:List Nd):Prop:=xs.length=e.length/\ ∀(i:Nat) (x:Nd),e[i]? =some x-> ∃c,xs[i]? =some c/\NdR c x
def NdR.cv (x:Nd):NdR x.cv x:=⟨_,rfl,rfl⟩
def dL.cv (e:List Nd):dL (cO e) e:=⟨jP e,λi x h=>⟨x.cv,by simp[cO,h],NdR.cv x⟩⟩
def sq {β:Type}{c:CV}{x:Nd}(h:NdR c x){k:Int->Int->List UInt8->List CV->Option β}:ko (LV.cv c) k=k x.kind x.typ x.text (dQ x.args):=by obtain⟨A,rfl,hA⟩:=h;show opt (cj (LV.cv A)) (λl=>opt (bZ []) λ_=>k x.kind x.typ x.text l)=_;rw[hA];rfl
def EsR (cs:List CV)(es:List (List Nd)):Prop:=cs.length=es.length/\ ∀(i:Nat) (e:List Nd),es[i]? =some e-> ∃c ys,cs[i]? =some c/\cj (LV.cv c)=some ys/\dL ys e
def EsR.nil:EsR [] []:=⟨rfl,λi e h=>by simp at h⟩
def EsR.snoc {cs:List CV}{es:List (List Nd)}{c:CV}{ys:List CV}{e:List Nd}(h:EsR cs es)(hc:cj (LV.cv c)=some ys)(hy:dL ys e):EsR (cs++[c]) (es++[e]):=by
 refine⟨by simp[h.1],λi x hx=> ?_⟩;rcases fu i es.length with hi|hi
 ·rw[gK hi]at hx;obtain⟨d,zs,h1,h2⟩:=h.2 i x hx;exact⟨d,zs,by rw[gK (by rw[h.1];exact hi)];exact h1,h2⟩
 ·rw[jy hi]at hx;have h0:i-es.length=0:=by
   rcases Nat.eq_zero_or_pos (i-es.length)with h0|h0
   ·exact h0
   ·rw[eB b7]at hx;cases hx
  rw[h0]at hx;injection hx with hx;subst hx;refine⟨c,ys,?_,hc,hy⟩;rw[jy (by rw[h.1];exact hi),h.1,h0];rfl
def oh (b:Nat)(x:Nd):Nd:={x with args:=x.args.map λa=>if a= -1 then a else IntKind.wrap .i64 (a+(b:Int))}
def im:List (List Nd)->List Nd->List Int->List Nd×List Int
 |[],out,az=>(out,az)|e::r,out,az=>if e=[]then im r out (az++[-1])else im r (out++e.map (oh out.length)) (az++[((out.length+e.length:Nat):Int) -1])
def pJ (k y:Int)(s:List UInt8)(es:List (List Nd)):List Nd:=(im es [] []).1++[⟨k,y,s,(im es [] []).2⟩]
def lP (es:List (List Nd)):Nat:=(es.map List.length).foldr (· + ·) 0
theorem fQ (e:List Nd)(r:List (List Nd)):lP (e::r)=e.length+lP r:=rfl
def pI: ∀(es:List (List Nd)) (out:List Nd) (az:List Int),(im es out az).1.length=out.length+lP es/\(im es out az).2.length=az.length+es.length
 |[],out,az=>⟨by simp[im,lP],by simp[im]⟩|e::r,out,az=>by
  rw[im,fQ];split
  ·rename_i h;have:=pI r out (az++[-1]);subst h;simp at this |-;omega
  ·have:=pI r (out++e.map (oh out.length)) (az++[((out.length+e.length:Nat):Int) -1]);simp at this |-;omega
def U9 {k y:Int}{s:List UInt8}{es:List (List Nd)}:(pJ k y s es).length=lP es+1:=by unfold pJ;have:=(pI es [] []).1;simp at this |-;exact this
section
variable {μ:Mu}{cs:List CV}{es:List (List Nd)}{k y k0 y0 k2 y2:Int}{s s0 s2:List UInt8}{a0:List CV}
def agp (hE:EsR cs es){i j b:Nat}{e:List Nd}{x:Nd}{out az:List CV}(he:es[i]? =some e)(hx:e[j]? =some x)(hal:x.args.length<=100000): ∀(m n:Nat) (zs:List Int),n+m=x.args.length->zs.length=n->
 LI (ev E) cs out (i:Int) (b:Int) (j:Int) (n:Int) k0 y0 s0 a0 k y s az k2 y2 s2 (dQ zs) μ=some (Bc cs out (i:Int) (b:Int) (j:Int) k0 y0 s0 a0 k y s az k2 y2 s2 (dQ (zs++((x.args.drop n).map λa=>if a= -1 then a else IntKind.wrap .i64 (a+(b:Int))))) μ):=by
 obtain⟨c,ys,h1,h2,h3⟩:=hE.2 i e he;obtain⟨d,h4,h5⟩:=h3.2 j x hx;intro m
 induction m with
 |zero=>intro n zs hn hz;refine cC ?_;rw[NS,eJ,h1,bx,h2,bx,eJ,h4,bx,sq h5,mh,cl bu,bI,dS bu,iA,fy]|succ m ih=>
  intro n zs hn hz;have hlt:n<x.args.length:=bu
  have hg : ∀ v : Int, Lo (ev E) cs out (i : Int) (b : Int) (j : Int) (n : Int) v k0 y0 s0 a0 k y s az k2 y2 s2 (dQ zs) μ = some (AO cs out (i : Int) (b : Int) (j : Int) (n : Int) k0 y0 s0 a0 k y s az k2 y2 s2 (dQ (zs ++ [v])) μ) := λv => ck (by
   rw[acP,wK bu,cK,uE]
   rfl)
  have hi:(dQ x.args)[n]? =some (bF x.args[n]):=by simp[dQ,hlt]
  refine cC ?_;rw[NS];simp only[eJ,h1,bx,h2,h4,sq h5,hi,eo];rw[mh,co bu,bH,dY hlt,dr];by_cases ha:x.args[n]= -1
  ·rw[co ha,cS,bI,hg,bx,DW,dy bu,ih (n+1) _ bu b7,bC ha,hZ];rfl
  ·rw[cl ha,c8,bH,hg,bx,DW,dy bu,ih (n+1) _ bu b7,bB ha,hZ];rfl
def ago (hE:EsR cs es){i b:Nat}{e:List Nd}{az:List CV}(he:es[i]? =some e)(hal: ∀x∈e,x.args.length<=100000)(hel:e.length<=100000): ∀(m n:Nat) (out:List Nd),n+m=e.length->out.length+m<=900000->
 LH (ev E) cs (cO out) (i:Int) (b:Int) (n:Int) k0 y0 s0 a0 k y s az μ=some (Bb cs (cO (out++(e.drop n).map (oh b))) (i:Int) k0 y0 s0 a0 k y s az μ):=by
 obtain⟨c,ys,h1,h2,h3⟩:=hE.2 i e he;intro m
 induction m with
 |zero=>intro n out hn ho;refine cC ?_;rw[NR,eJ,h1,bx,h2,bx,h3.1,cl bu,bI,dS bu,iA,fy]|succ m ih=>intro n out hn ho;have hlt:n<e.length:=bu;obtain⟨d,h4,h5⟩:=h3.2 n e[n] (dK hlt);have h14:=agp (μ:=μ) (k:=k) (y:=y) (k0:=k0) (y0:=y0) (k2:=e[n].kind) (y2:=e[n].typ) (s:=s) (s0:=s0) (s2:=e[n].text) (a0:=a0) (b:=b) (out:=cO out) (az:=az) hE he (dK hlt) (hal _ (md hlt)) e[n].args.length 0 [] bu rfl;have e0:((0:Nat):Int)=0:=rfl;have e1:dQ []=[]:=rfl;rw[e0,e1,d7,eR]at h14;refine cC ?_;rw[NR];simp only[eJ,h1,bx,h2,h4,sq h5];rw[h3.1,co bu,bH,h14,bx,Rv];have hn1:[CV.agg [bF e[n].kind,bF e[n].typ,CV.str e[n].text,CV.sl (dQ (e[n].args.map λa=>if a= -1 then a else IntKind.wrap .i64 (a+(b:Int))))]]=cO [oh b e[n]]:=rfl;rw[hn1,mf (by rw[jP,jP];simp;omega) (oH _) (oH _),cK,<-B5,dy bu,ih (n+1) _ bu b7,dY hlt,dr,hZ];rfl
def ah4 (hE:EsR cs es)(hal: ∀e∈es,∀x∈e,x.args.length<=100000)(hel:lP es<=100000)(hes:es.length<=100000): ∀(m n:Nat) (out:List Nd) (az:List Int),n+m=es.length->out.length+lP (es.drop n)<=100000->az.length=n->
 CJ (ev E) cs (cO out) (n:Int) k0 y0 s0 a0 k y s (dQ az) μ=some (EK (cO (im (es.drop n) out az).1) k0 y0 s0 a0 k y s (dQ (im (es.drop n) out az).2) μ):=by
 intro m
 induction m with
 |zero=>intro n out az hn ho hz;refine cC ?_;rw[T6,hE.1,cl bu,bI,dS bu,im]|succ m ih=>
  intro n out az hn ho hz;have hlt:n<es.length:=bu;rw[dY hlt]at ho |-;rw[fQ]at ho;obtain⟨c,ys,h1,h2,h3⟩:=hE.2 n es[n] (dK hlt);refine cC ?_;rw[T6,hE.1,co bu,bH,eJ,h1,bx,h2,bx,h3.1,im];by_cases h0:es[n]=[]
  ·have hc:dQ az++[bF (-1)]=dQ (az++[-1]):=by rw[uE];rfl
   rw[bC h0,co (by rw[h0];rfl),bH,wK bu,cK,dy bu,hc,ih (n+1) _ _ bu (by rw[h0]at ho;simpa using ho) b7]
  ·have hp:0<es[n].length:=Di.2 h0;have h10:=ago (μ:=μ) (k:=k) (y:=y) (k0:=k0) (y0:=y0) (s:=s) (s0:=s0) (a0:=a0) (b:=out.length) (az:=dQ az) hE (dK hlt) (hal _ (md hlt)) bu es[n].length 0 out bu bu;have e0:((0:Nat):Int)=0:=rfl;rw[e0,d7]at h10;have hw:IntKind.wrap .i64 (((cO (out++es[n].map (oh out.length))).length:Int) -1)=((out.length+es[n].length:Nat):Int) -1:=by rw[jP,ef,ly];exact el bu bu
   have hg : adH (ev E) cs (cO out) (n : Int) k0 y0 s0 a0 k y s (dQ az) μ = some (EA cs (cO (out ++ es[n].map (oh out.length))) (n : Int) k0 y0 s0 a0 k y s (dQ (az ++ [((out.length + es[n].length : Nat) : Int) - 1])) μ) := ck (by
    rw[afm,jP,h10,bx,Ru,hw,wK bu,cK,uE]
    rfl)
   rw[bB h0,cl bu,bI,hg,bx,V6,dy bu,ih (n+1) _ _ bu b7 b7]
def ajt {ρ:Rho}{b:List CV}:bJ E ρ 45 [LV.cv (CV.agg [bF k,bF y,CV.str s,CV.v (.slice none 0 0)]),LV.osl b] μ=opt (CJ ρ b [] 0 k y s [] k y s [] μ) (kB ρ 45 H45 [.block 0,.seq (cN 45 31)]):=bw
def ajs {ρ:Rho}{b:List CV}:bJ E ρ 45 [LV.cv (CV.agg [bF k,bF y,CV.str s,CV.v (.slice none 0 0)]),LV.cv (CV.sl b)] μ=opt (CJ ρ b [] 0 k y s [] k y s [] μ) (kB ρ 45 H45 [.block 0,.seq (cN 45 31)]):=bw
def adW (hE:EsR cs es)(hal: ∀e∈es,∀x∈e,x.args.length<=100000)(hel:lP es<=100000)(hes:es.length<=100000){v:LV}(hv:v=LV.osl cs\/v=LV.cv (CV.sl cs)):
 (ev E).call 45 [LV.cv (CV.agg [bF k,bF y,CV.str s,CV.v (.slice none 0 0)]),v] μ=some (.ret (LV.osl (cO (pJ k y s es))) μ):=by
 have h:=ah4 (μ:=μ) (k:=k) (y:=y) (k0:=k) (y0:=y) (s:=s) (s0:=s) (a0:=[]) hE hal hel hes es.length 0 [] [] bu (by simpa using hel) rfl;have e0:((0:Nat):Int)=0:=rfl;have e1:dQ []=[]:=rfl;have e2:cO []=[]:=rfl;rw[e0,e1,e2,d7]at h;have hl:=pI es [] [];have hn: ∀az:List Int,[CV.agg [bF k,bF y,CV.str s,CV.sl (dQ az)]]=cO [⟨k,y,s,az⟩]:=λ_=>rfl;have hf:opt (CJ (ev E) cs [] 0 k y s [] k y s [] μ) (kB (ev E) 45 H45 [.block 0,.seq (cN 45 31)])=some (.ret (LV.osl (cO (pJ k y s es))) μ):=by rw[h,bx,Wo,hn,mf (by rw[jP,jP];simp at hl |-; omega) (oH _) (oH _),cK,<-B5];rfl
 rcases hv with rfl|rfl
 ·exact bW (by rw[ajt,hf])
 ·exact bW (by rw[ajs,hf])
end
def opN:Option T->List Nd
 |none=>[]|some t=>t.flat 0
def aa6 {a:Int}{b:Nat}(h:a= -1\/(0<=a/\a+b<=1000000)):(if a= -1 then a else IntKind.wrap .i64 (a+(b:Int)))=if a= -1 then a else a+b:=by
 split
 ·rfl
 ·exact el bu bu
mutual
def Gx (c:Nat): ∀(t:T) (b:Nat),b+c+t.size<=1000000->(t.flat b).map (oh c)=t.flat (b+c)
 | .mk k y s x,b,h=>by
  rw[T.size]at h;rw[T.flat,T.flat,uZ,wc c x b bu,dr,iA];have:oh c ⟨k,y,s,dO b x⟩=⟨k,y,s,dO (b+c) x⟩:=by unfold oh;dsimp only;rw[wn c x b bu]
  rw[this]
def wc (c:Nat): ∀(x:List (Option T)) (b:Nat),b+c+sizeA x<=1000000->(fe b x).map (oh c)=fe (b+c) x
 |[],b,h=>by rw[fe,fe];rfl|none::r,b,h=>by rw[sizeA,gT]at h;rw[fe,fe,kG,kG,gT,uZ,wc c r (b+0) bu];rfl|some t::r,b,h=>by rw[sizeA,gT]at h;rw[fe,fe,kG,kG,gT,uZ,Gx c t b bu,wc c r (b+t.size) bu,show b+t.size+c=b+c+t.size by omega]
def wn (c:Nat): ∀(x:List (Option T)) (b:Nat),b+c+sizeA x<=1000000->((dO b x).map λa=>if a= -1 then a else IntKind.wrap .i64 (a+(c:Int)))=dO (b+c) x
 |[],b,h=>by rw[dO,dO];rfl|none::r,b,h=>by rw[sizeA,gT]at h;rw[dO,dO,dr,wn c r b bu];rfl|some t::r,b,h=>by
  rw[sizeA,gT]at h;have ht:1<=t.size:=by cases t;rw[T.size];omega
  rw[dO,dO,dr,wn c r (b+t.size) bu,aa6 (.inr ⟨bu,bu⟩),bB bu,show b+t.size+c=b+c+t.size by omega];congr 1;omega
end
def v8: ∀(x:List (Option T)) (out:List Nd) (az:List Int),out.length+sizeA x<=1000000->im (x.map opN) out az=(out++fe out.length x,az++dO out.length x)
 |[],out,az,h=>by simp[im,fe,dO]|none::r,out,az,h=>by rw[sizeA,gT]at h;rw[dr,im,opN,bC rfl,v8 r out _ bu,fe,kG,gT,dO];simp|some t::r,out,az,h=>by
  rw[sizeA,gT]at h;have hl:=T.flat_len 0 t;have ht:1<=t.size:=by cases t;rw[T.size];omega
  have hne:t.flat 0≠[]:=λe=>by rw[e]at hl;simp at hl;omega
  have hs:=Gx out.length t 0 bu;rw[fZ]at hs;rw[dr,im,opN,bB hne,hs,hl,v8 r _ _ (by rw[ef,T.flat_len];omega),fe,kG,gT,dO,ef,T.flat_len,hZ,hZ];rfl
def Px {k y:Int}{s:List UInt8}{x:List (Option T)}(h:sizeA x<=1000000):pJ k y s (x.map opN)=(T.mk k y s x).flat 0:=by unfold pJ;rw[v8 x [] [] (by simpa using h),T.flat];rfl
def VO (l:List Tok):Prop:= ∀x∈l,x.kind=2->x.type=0
section
variable {μ:Mu}{lv i n:Nat}{l:List Tok}
def j1 (h:Rdr μ lv i l n)(hv:VO l){s:List UInt8}(hs:s≠[]):(ev E).call 102 [LV.cv (CV.ref lv i 0),LV.str s] μ=some (.ret (LV.bool (decide (opR (l.drop n)=s))) μ):=by
 refine bW ?_;have ro:ce μ lv i= .cells [LV.cv (CV.sl (bS l)),bv (n:Int)]:=h.ob;have e1: ∀m:Int,strip (bv m)=bv m:=λ_=>rfl;have e2:strip (LV.cv (CV.sl (bS l)))=LV.cv (CV.sl (bS l)):=rfl;rw[aip,ro];simp only[vR,qV,e1,e2,bx,eo,o6,jM];rcases fu n l.length with hn|hn
 ·rw[co bu,bH,qm,dK hn,gN,bx,m7,dY hn,opR];by_cases hk:l[n].kind=2
  ·rw[bC hk,co hk,co (hv _ (md hn) hk),t7,ic,ic]
  ·rw[bB hk,cl hk,ov,cl λe=>hs e.symm]
 ·rw[cl bu,bI,dS hn,opR,cl λe=>hs e.symm]
def agq (h:Rdr μ lv i l n)(hv:VO l){s:List UInt8}(hs:s≠[]):(ev E).call 101 [LV.cv (CV.ref lv i 0),LV.str s] μ=some (match cI s (l.drop n)with|some _=> .ret (LV.bool true) (rS μ lv i l (n+1))|none=> .ret (LV.bool false) μ):=by
 refine bW ?_;rw[aio,j1 h hv hs,bV,bX,bx];unfold cI;by_cases ho:opR (l.drop n)=s
 ·rw[co ho,bH,bC ho,Bp h.ob h.small];rfl
 ·rw[cl ho,bI,bB ho]
def kf:List (List UInt8):=[[42,42],[42],[47],[43],[45],[47,47],[46,76,84,46],[46,76,69,46],[46,69,81,46],[46,78,69,46],[46,71,69,46],[46,71,84,46],[46,65,78,68,46],[46,79,82,46],[46,69,81,86,46],[46,78,69,81,86,46]]
def rk (b:List UInt8):List (List UInt8)->Nat->Option Nat
 |[],_=>none|a::r,i=>if b=a then some i else rk b r (i+1)
def TQ {k y:Int}{b:List UInt8}: ∀(m i:Nat),i+m=16->FP (ev E) (dh kf) (i:Int) k y b μ=some (match if k=2 then rk b (kf.drop i) i else none with|some j=>AR (9+(j:Int)) true μ|none=>AS μ)
 | 0, i, h => cC (by
  have:i=16:=bu;subst this;rw[NB];have e:kf.drop 16=[]:=rfl;rw[e,rk]
  by_cases hk:k=2<;>simp[hk]<;>rfl)
 |m+1,i,h=>by
  have ih:=TQ (k:=k) (y:=y) (b:=b) m (i+1) bu;have hl:kf.length=16:=rfl;have hi:i<kf.length:=bu;have hs:(dh kf).length=16:=rfl;have hg:(dh kf)[i]? =some (CV.str kf[i]):=by unfold dh;rw[gM,dK hi];rfl
  refine cC ?_;rw[NB,hs,co bu,bH,eJ,hg,bx,dT,bx,dy bu,ih,dY hi,rk];by_cases hk:k=2
  ·rw[co hk,bH,bC hk,bC hk];by_cases hb:b=kf[i]
   ·rw[co hb,bH,bC hb,el bu bu]
   ·rw[cl hb,bI,bB hb]
  ·rw[cl hk,bI,bB hk,bB hk]
def B8 (x:Tok):Option Nat:=if x.kind=2 then rk x.text kf 0 else none
def agr {x:Tok}:(ev E).call 103 [LV.cv (CV.agg [bF x.kind,bF x.type,CV.str x.text])] μ=some (.ret (match B8 x with|some j=> .ltup [bv (9+(j:Int)),LV.bool true]|none=> .ltup [bv 0,LV.bool false]) μ):=by
 refine bW ?_;have h:=TQ (k:=x.kind) (y:=x.type) (b:=x.text) (μ:=μ) 16 0 rfl;have e0:((0:Nat):Int)=0:=rfl;rw[e0,d7]at h;have e:([CV.str [42,42],CV.str [42],CV.str [47],CV.str [43],CV.str [45],CV.str [47,47],CV.str [46,76,84,46],CV.str [46,76,69,46],CV.str [46,69,81,46],CV.str [46,78,69,46],CV.str [46,71,69,46],CV.str [46,71,84,46],CV.str [46,65,78,68,46],CV.str [46,79,82,46],CV.str [46,69,81,86,46],CV.str [46,78,69,81,86,46]]:List CV)=dh kf:=rfl;rw[aiq,e,h,bx];unfold B8;cases (if x.kind=2 then rk x.text kf 0 else none)with|some j=>exact Q0 _ _ _ _|none=>exact Q1 _ _
def Hb {a:Int}{b:List UInt8}: ∀{m k j:Nat},k+m<=25->ew a b m k=some j->b∈kf
 |0,k,j,hk,h=>by cases h|m+1,k,j,hk,h=>by
  unfold ew at h;split at h
  ·rename_i hc;have key: ∀k:Nat,k<25->vL (k:Int)=2->tA (k:Int)≠[]->tA (k:Int)∈kf:=cf;rw[<-hc.2.2.2];exact key k bu hc.1 hc.2.1
  ·exact Hb bu h
def Gv {b:List UInt8}: ∀{L:List (List UInt8)} {i:Nat},b ∉ L->rk b L i=none
 |[],i,h=>rfl|a::r,i,h=>by rw[rk,bB (λe=>h (by simp[e])),Gv λe=>h (by simp[e])]
def ajx {n:Int}{b:List UInt8}:ew n b 25 0=match rk b kf 0 with|some j=>if wh (9+(j:Int))=n then some (9+j)else none|none=>none:=by
 by_cases hb:b∈kf
 ·have key: ∀b∈kf,∃j,rk b kf 0=some j/\ ∀k:Nat,k<25->(vL (k:Int)=2/\tA (k:Int)≠[]/\tA (k:Int)=b↔k=9+j)/\lvl ((9+j:Nat):Int)=wh (9+(j:Int))/\9+j<25:=cf;obtain⟨j,h1,h2⟩:=key b hb;rw[h1];dsimp only;have hj:=(h2 0 bu).2.2;have hl:=(h2 0 bu).2.1;have go: ∀(m k:Nat),k+m=25->ew n b m k=if k<=9+j/\wh (9+(j:Int))=n then some (9+j)else none:=by
   intro m
   induction m with
   |zero=>intro k hk;rw[ew,bB bu]|succ m ih=>
    intro k hk;have h3:=(h2 k bu).1;rw[ew,ih (k+1) bu];by_cases hkj:k=9+j
    ·have h4:=h3.2 hkj;subst hkj;by_cases hn:wh (9+(j:Int))=n
     ·rw[bC ⟨h4.1,h4.2.1,hl.trans hn,h4.2.2⟩,bC ⟨ct _,hn⟩]
     ·rw[bB (λe=>hn (hl.symm.trans e.2.2.1)),bB (λe=>hn e.2),bB (λe=>hn e.2)]
    ·rw[bB (λe=>hkj (h3.1 ⟨e.1,e.2.1,e.2.2.2⟩))];by_cases hn:wh (9+(j:Int))=n
     ·by_cases hle:k<=9+j
      ·rw[bC ⟨bu,hn⟩,bC ⟨hle,hn⟩]
      ·rw[bB bu,bB bu]
     ·rw[bB (λe=>hn e.2),bB (λe=>hn e.2)]
  rw[go 25 0 rfl];by_cases hn:wh (9+(j:Int))=n
  ·rw[bC ⟨bu,hn⟩,bC hn]
  ·rw[bB (λe=>hn e.2),bB hn]
 ·rw[Gv hb];cases h:ew n b 25 0 with|none=>rfl|some j=>exact absurd (Hb bu h) hb
def TG (t:T)(b:Nat):t.flat b=fe b t.args++[⟨t.kind,t.typ,t.text,dO b t.args⟩]:=by cases t;rw[T.flat];rfl
def xj (t:T):t.size=1+sizeA t.args:=by cases t;rw[T.size];rfl
def By (t:T){b:Nat}:(t.flat b)[t.size-1]? =some ⟨t.kind,t.typ,t.text,dO b t.args⟩:=by rw[TG,xj,jy (by rw[rW];omega),rW,show 1+sizeA t.args-1-sizeA t.args=0 by omega];rfl
def Zz {xs:List CV}{t:T}(h:dL xs (t.flat 0))(ht:okT t)(hs:t.size<=1000000):(ev E).call 79 [LV.cv (CV.sl xs),bv (IntKind.wrap .i64 ((xs.length:Int) -1))] μ=some (.ret (LV.bool (eM t)) μ):=by
 refine bW ?_;have hp: ∀u:T,1<=u.size:=λu=>by rw[xj];omega
 have:=hp t;have hw:IntKind.wrap .i64 ((xs.length:Int) -1)=((t.size-1:Nat):Int):=by rw[h.1,T.flat_len,el bu bu];omega
 obtain⟨c,hc,hr⟩:=h.2 _ _ (By t);have seg: ∀(j:Nat) (x:Nd),(t.flat 0)[j]? =some x->opt (FO (ev E) xs (j:Int) μ) (kB (ev E) 79 H79 [])=some (.ret (LV.bool (decide (x.kind=0)&&rp x.typ)) μ):=λj x hx=>by
  obtain⟨d,hd,hrd⟩:=h.2 _ _ hx;have hG:FO (ev E) xs (j:Int) μ=some (yv (decide (x.kind=0)&&rp x.typ) μ):=by
   refine ck ?_;rw[afs];simp only[eJ,hd,bx,sq hrd,yZ,bV,bX];by_cases h0:x.kind=0
   ·rw[co h0,bH,ic];congr 2;unfold rp;by_cases q0:x.typ=0
    ·simp[q0]
    by_cases q1:x.typ=1
    ·simp[q1]
    by_cases q2:x.typ=2
    ·simp[q2]
    simp[q0,q1,q2];omega
   ·rw[cl h0,bI,ov]
  rw[hG,bx,Wd]
 rw[hw,akS];simp only[eJ,hc,bx,sq hr];by_cases hk:t.kind=6\/t.kind=7
 ·obtain⟨u,ha,hu⟩:=ht.2 hk;have hpu:=hp u;have hra:dO 0 t.args=[((0+u.size:Nat):Int) -1]:=by rw[ha,dO,dO]
  have h0:cT (dQ (dO 0 t.args)) (0:Int)=some (bF ((u.size-1:Nat):Int)):=by rw[hra];show some (bF (((0+u.size:Nat):Int) -1))=_;congr 2;congr 1;omega
  have hx:(t.flat 0)[u.size-1]? =some ⟨u.kind,u.typ,u.text,dO 0 u.args⟩:=by rw[TG,ha,fe,fe,kG,fy,gK (by rw[T.flat_len];omega)];exact By u
  have hpt:eM t=(decide (u.kind=0)&&rp u.typ):=by unfold eM;rw[co hk,ha]
  rw[h0];simp only[bx,eo,seg _ _ hx,hpt];rcases hk with hk|hk
  ·rw[co hk,bH]
  ·rw[cl bu,bI,co hk,bH]
 ·have hpt:eM t=(decide (t.kind=0)&&rp t.typ):=by unfold eM;rw[cl hk]
  rw[cl bu,bI,cl bu,bI,seg _ _ (By t),hpt]
def J7 {t:T}(ht:okT t)(h:eM t=true):t.size<=2:=by
 unfold eM at h;by_cases hk:t.kind=6\/t.kind=7
 ·obtain⟨u,ha,hu⟩:=ht.2 hk;rw[co hk,ha]at h;dsimp only at h;have h0:u.kind=0:=by rcases Bool.and_eq_true_iff.1 h with⟨h1,_⟩;exact sF h1
  rw[xj,ha,sizeA,sizeA,gT,xj,hu h0,sizeA];omega
 ·rw[cl hk]at h;dsimp only at h;have h0:t.kind=0:=by rcases Bool.and_eq_true_iff.1 h with⟨h1,_⟩;exact sF h1
  rw[xj,ht.1 h0,sizeA];omega
def CR (μ:Mu)(lv i:Nat)(l:List Tok)(n c:Nat)(res:Option (T×List Tok))(x:Option Out):Prop:=match res with
 |some q=> ∃m v xs,q.2=l.drop m/\m<=l.length/\cj v=some xs/\dL xs (q.1.flat 0)/\x=some (.ret (.ltup [v,LV.bool true]) (rS μ lv i l m))|none=> ∃m v xs e,n<=m/\m<=l.length/\cj v=some xs/\dL xs e/\(∀y∈e,y.args.length<=10000)/\e.length+4*n<=c+4*m/\x=some (.ret (.ltup [v,LV.bool false]) (rS μ lv i l m))
def CR.up {m c c':Nat}{res:Option (T×List Tok)}{x:Option Out}(h:CR (rS μ lv i l m) lv i l m c' res x)(hn:n<=m)(hc:c'+4*n<=c+4*m):CR μ lv i l n c res x:=by
 unfold CR at h |-;cases res with
 |none=>obtain⟨k,v,xs,e,h1,h2,h3,h4,h5,h6,h7⟩:=h;exact⟨k,v,xs,e,bu,h2,h3,h4,h5,bu,by rw[h7,kN]⟩
 |some q=>obtain⟨k,v,xs,h1,h2,h3,h4,h5⟩:=h;exact⟨k,v,xs,h1,h2,h3,h4,by rw[h5,kN]⟩
def CR.good {c:Nat}{v:LV}{xs:List CV}{t:T}{x:Option Out}(h:Rdr μ lv i l n)(hv:cj v=some xs)(hx:dL xs (t.flat 0))(e:x=some (.ret (.ltup [v,LV.bool true]) μ)):CR μ lv i l n c (some (t,l.drop n)) x:=⟨n,v,xs,rfl,h.le,hv,hx,by rw[xg h.ob];exact e⟩
def CR.bad {c:Nat}{v:LV}{xs:List CV}{e:List Nd}{x:Option Out}(h:Rdr μ lv i l n)(hv:cj v=some xs)(hx:dL xs e)(ha: ∀y∈e,y.args.length<=10000)(hc:e.length<=c)(he:x=some (.ret (.ltup [v,LV.bool false]) μ)):CR μ lv i l n c none x:=⟨n,v,xs,e,ct _,h.le,hv,hx,ha,bu,by rw[xg h.ob];exact he⟩
def dL.nil:dL [] []:=⟨rfl,λi x h=>by simp at h⟩
def CR.stop {c:Nat}{v:LV}{x:Option Out}(h:Rdr μ lv i l n)(hv:cj v=some [])(he:x=some (.ret (.ltup [v,LV.bool false]) μ)):CR μ lv i l n c none x:=CR.bad h hv dL.nil (λy hy=>by simp at hy) (ox _) he
def CR.ev {c:Nat}{res:Option (T×List Tok)}{f:FuncId}{args:List LV}(h:CR μ lv i l n c res (bJ E (Go.Abs.ev E) f args μ)):CR μ lv i l n c res ((Go.Abs.ev E).call f args μ):=by
 unfold CR at h |-;cases res with
 |none=>obtain⟨k,v,xs,e,h1,h2,h3,h4,h5,h6,h7⟩:=h;exact⟨k,v,xs,e,h1,h2,h3,h4,h5,h6,bW h7⟩
 |some q=>obtain⟨k,v,xs,h1,h2,h3,h4,h5⟩:=h;exact⟨k,v,xs,h1,h2,h3,h4,bW h5⟩
def CR.imp {c:Nat}{res:Option (T×List Tok)}{x y:Option Out}(h:CR μ lv i l n c res x)(hi: ∀r,x=some r->y=some r):CR μ lv i l n c res y:=by
 unfold CR at h |-;cases res with
 |none=>obtain⟨k,v,xs,e,h1,h2,h3,h4,h5,h6,h7⟩:=h;exact⟨k,v,xs,e,h1,h2,h3,h4,h5,h6,hi _ h7⟩
 |some q=>obtain⟨k,v,xs,h1,h2,h3,h4,h5⟩:=h;exact⟨k,v,xs,h1,h2,h3,h4,hi _ h5⟩
def CR.segO {c:Nat}{res:Option (T×List Tok)}{d:SegD}{K:St->Option Out}(h:CR μ lv i l n c res (opt (d.sK (Go.Abs.ev E) μ) K)):CR μ lv i l n c res (opt (d.seg (Go.Abs.ev E) μ) K):=
 h.imp λr hr=>by obtain⟨s,h1,h2⟩:=cF hr;rw[ck h1,bx,h2]
def CR.loopO {c:Nat}{res:Option (T×List Tok)}{d:SegD}{K:St->Option Out}(h:CR μ lv i l n c res (opt (d.rK (Go.Abs.ev E) μ) K)):CR μ lv i l n c res (opt (d.loop (Go.Abs.ev E) μ) K):=
 h.imp λr hr=>by obtain⟨s,h1,h2⟩:=cF hr;rw[cC h1,bx,h2]
def CR.seq {c:Nat}{X:PR T}{kk:T->List Tok->PR T}{res:Option (T×List Tok)}{x:Option Out}{K:LV->Mu->Option Out}{p:CV->Mu->Option Out}(hn:n<=l.length)(hb:cY X kk=some res)(hL:Ln (4*(l.drop n).length) T.len X)
 (hx: ∀r,X=some r->CR μ lv i l n 0 r x)
 (hs: ∀t m v xs,X=some (some (t,l.drop m))->n<=m->m<=l.length->t.len+4*n<=4*m->cj v=some xs->dL xs (t.flat 0)->kk t (l.drop m)=some res->CR (rS μ lv i l m) lv i l m (c+4*(m-n)) res (K (.ltup [v,LV.bool true]) (rS μ lv i l m)))
 (hf:res=none-> ∀m v xs e,n<=m->m<=l.length->cj v=some xs->dL xs e->(∀y∈e,y.args.length<=10000)->e.length+4*n<=4*m->CR (rS μ lv i l m) lv i l m (c+4*(m-n)) none (K (.ltup [v,LV.bool false]) (rS μ lv i l m))):
 CR μ lv i l n c res (callK x K p):=by
 rcases fU hb with⟨h1,h2⟩|⟨t,r,h1,h2⟩
 ·obtain⟨m,v,xs,e,a1,a2,a3,a4,a5,a6,a7⟩:=hx _ h1;rw[a7,bV,h2];exact(hf h2 m v xs e a1 a2 a3 a4 a5 bu).up a1 bu
 ·obtain⟨m,v,xs,a1,a2,a3,a4,a5⟩:=hx _ h1;dsimp only at a1 a4;have hlen:=hL _ _ h1;have hp:=T.len_pos t;rw[a1,fY,fY]at hlen;rw[a5,bV];rw[a1]at h1 h2;exact(hs t m v xs h1 bu a2 bu a3 a4 h2).up bu bu
def CR.take {c:Nat}{res:Option (T×List Tok)}{s:List UInt8}{K:LV->Mu->Option Out}{p:CV->Mu->Option Out}(h:Rdr μ lv i l n)(hv:VO l)(hs:s≠[])
 (h1:n+1<=l.length->cI s (l.drop n)=some (l.drop (n+1))->CR (rS μ lv i l (n+1)) lv i l (n+1) (c+4) res (K (LV.bool true) (rS μ lv i l (n+1))))
 (h2:cI s (l.drop n)=none->CR μ lv i l n c res (K (LV.bool false) μ)):CR μ lv i l n c res (callK ((Go.Abs.ev E).call 101 [LV.cv (CV.ref lv i 0),LV.str s] μ) K p):=by
 rw[agq h hv hs];cases t:cI s (l.drop n)with
 |none=>exact h2 t|some r=>obtain⟨hn,e⟩:=gU hs t;exact(h1 hn (by rw[t,e])).up bu bu
mutual
def rX: ∀(t:T) (b:Nat),∀x∈t.flat b,x.args.length<=t.len
 | .mk k y s z,b,x,hx=>by
  rw[T.flat]at hx;rw[T.len];rcases gt.1 hx with h|h
  ·have:=yR z b x h;omega
  ·have hr: ∀(z:List (Option T)) (b:Nat),(dO b z).length<=lnA z:=by
    intro z
    induction z with
    |nil=>intro b;rw[dO];exact ox _|cons o r ih=>
     intro b;cases o with|none=>have:=ih b;rw[dO,lnA];simp;omega|some t=>have:=ih (b+t.size);have:=T.len_pos t;rw[dO,lnA];simp;omega
   rw[kU]at h;subst h;have:=hr z b;dsimp only;omega
def yR: ∀(z:List (Option T)) (b:Nat),∀x∈fe b z,x.args.length<=lnA z
 |[],b,x,hx=>by rw[fe]at hx;simp at hx|none::r,b,x,hx=>by rw[fe,kG]at hx;have:=yR r _ x (by simpa using hx);rw[lnA];omega|some t::r,b,x,hx=>by
  rw[fe,kG]at hx;rw[lnA];rcases gt.1 hx with h|h
  ·have:=rX t b x h;omega
  ·have:=yR r _ x h;omega
end
def v7 {c:Nat}: ∀(es:List (List Nd)) (out:List Nd) (az:List Int),(∀e∈es,∀x∈e,x.args.length<=c)->(∀x∈out,x.args.length<=c)-> ∀x∈(im es out az).1,x.args.length<=c
 |[],out,az,h,ho=>ho|e::r,out,az,h,ho=>by
  rw[im];split
  ·exact v7 r _ _ (λe he=>h e (by simp[he])) ho
  ·refine v7 r _ _ (λe he=>h e (by simp[he])) λx hx=> ?_;rcases gt.1 hx with h1|h1
   ·exact ho x h1
   ·obtain⟨y,hy,rfl⟩:=ph.1 h1;show ((y.args.map _).length)<=c;rw[ly];exact h e bE y hy
def Pw {c:Nat}{k y:Int}{s:List UInt8}{es:List (List Nd)}(h: ∀e∈es,∀x∈e,x.args.length<=c)(hc:es.length<=c): ∀x∈pJ k y s es,x.args.length<=c:=λx hx=>by
 unfold pJ at hx;rcases gt.1 hx with h1|h1
 ·exact v7 es [] [] h (λx hx=>by simp at hx) x h1
 ·rw[kU]at h1;subst h1;have:=(pI es [] []).2;simp at this |-;omega
end
def iX (xs:List CV)(b:Bool)(ν:Mu):Option Out:=some (.ret (.ltup [LV.cv (CV.sl xs),LV.bool b]) ν)
structure RAll (f:Nat):Prop where
 level: ∀{μ lv i l n k res},Rdr μ lv i l n->VO l->l.length<=1000->1<=k->k<=10->cJ f k (l.drop n)=some res->CR μ lv i l n 0 res ((ev E).call 60 [LV.cv (CV.ref lv i 0),bv (k:Int)] μ)
 loop: ∀{μ lv i l n k t xs res} {K:St->Option Out},Rdr μ lv i l n->VO l->l.length<=1000->1<=k->k<=9->k≠5->dL xs (t.flat 0)->t.len<=4*n->(∀xs b ν,K (lC xs b ν)=iX xs b ν)->(∀xs b ν,K (kD xs b ν)=iX xs b ν)->
  gm f k t (l.drop n)=some res->CR μ lv i l n t.len res (opt (wG (ev E) lv i (k:Int) xs true μ) K)
 prim: ∀{μ lv i l n res},Rdr μ lv i l n->VO l->l.length<=1000->gR f (l.drop n)=some res->CR μ lv i l n 0 res ((ev E).call 100 [LV.cv (CV.ref lv i 0)] μ)
 list: ∀{μ lv i l n acc a b s res} {zs:List (List CV)} {K:St->Option Out},Rdr μ lv i l n->VO l->l.length<=1000->EsR (zs.map CV.sl) (acc.map (T.flat 0))->lnS acc<=4*n->acc.length<=n->(∀xs b ν,K (pE xs b ν)=iX xs b ν)->
  gQ f acc (l.drop n)=some res->CR μ lv i l n (lnS acc) (res.map λq=>(T.mk 2 0 s (q.1.map some),q.2)) (opt (CG (ev E) lv i (zs.map CV.sl) a b s μ) K)
 arg: ∀{μ lv i l n res},Rdr μ lv i l n->VO l->l.length<=1000->kn f (l.drop n)=some res->CR μ lv i l n 0 res ((ev E).call 141 [LV.cv (CV.ref lv i 0)] μ)
section
variable {μ:Mu}{lv i n k f:Nat}{l:List Tok}{res:Option (T×List Tok)}
def za: ∀z:List (Option T),z.length<=lnA z
 |[]=>ox _|none::r=>by have:=za r;rw[lnA];simp;omega|some t::r=>by have:=za r;have:=T.len_pos t;rw[lnA];simp;omega
def Fe: ∀z:List (Option T),lP (z.map opN)=sizeA z
 |[]=>by rw[sizeA];rfl|none::r=>by rw[dr,fQ,Fe r,sizeA,gT];rfl|some t::r=>by rw[dr,fQ,Fe r,sizeA,gT,opN,T.flat_len]
def EZ: ∀z:List (Option T),∀e∈z.map opN,∀x∈e,x.args.length<=lnA z
 |[],e,he,x,hx=>by simp at he|none::r,e,he,x,hx=>by
  rw[lnA];rcases ed.1 he with rfl|he
  ·simp[opN]at hx
  ·have:=EZ r e he x hx;omega
 |some t::r,e,he,x,hx=>by
  rw[lnA];rcases ed.1 he with rfl|he
  ·have:=rX t 0 x hx;omega
  ·have:=EZ r e he x hx;omega
def mN {z:List (Option T)}{cs:List CV}{v:LV}{k:Int}{s:List UInt8}(hE:EsR cs (z.map opN))(hz:lnA z<=100000)(hv:v=LV.osl cs\/v=LV.cv (CV.sl cs)):
 (ev E).call 45 [LV.cv (CV.agg [bF k,bF 0,CV.str s,CV.v (.slice none 0 0)]),v] μ=some (.ret (LV.osl (cO ((T.mk k 0 s z).flat 0))) μ):=by
 have h1:=za z;have h2:=sy z;rw[adW hE (λe he x hx=>iN (EZ z e he x hx) hz) (by rw[Fe];omega) b7 hv,Px bu]
def vD {es:List (List Nd)}{cs:List CV}{k:Int}{s:List UInt8}(hE:EsR cs es)(ha: ∀e∈es,∀x∈e,x.args.length<=10000)(hl:lP es<=100000)(hn:es.length<=10):
 ∃e',(∀x∈e',x.args.length<=10000)/\e'.length=lP es+1/\(ev E).call 45 [LV.cv (CV.agg [bF k,bF 0,CV.str s,CV.v (.slice none 0 0)]),LV.osl cs] μ=some (.ret (LV.osl (cO e')) μ):=
 ⟨pJ k 0 s es,Pw ha bu,U9,adW hE (λe he x hx=>iN (ha e he x hx) bu) hl bu (.inl rfl)⟩
def EsR.one {c:CV}{ys:List CV}{e:List Nd}(hc:cj (LV.cv c)=some ys)(hy:dL ys e):EsR [c] [e]:=EsR.nil.snoc hc hy
def EsR.two {c d:CV}{ys zs:List CV}{e g:List Nd}(hc:cj (LV.cv c)=some ys)(hy:dL ys e)(hd:cj (LV.cv d)=some zs)(hz:dL zs g):EsR [c,d] [e,g]:=(EsR.one hc hy).snoc hd hz
def CR.same {c:Nat}{x:Option Out}{p:CV->Mu->Option Out}(h:CR μ lv i l n c res x):
 CR μ lv i l n c res (callK x (λv1 μ2=>opt (ci v1) λxs5=>opt (bG xs5) λq6=>opt (cj q6.1) λl7=>opt (bG q6.2) λq8=>opt (bO q8.1) λb9=>opt (bZ q8.2) λu10=>some (.ret (LV.ltup [LV.cv (CV.sl l7),LV.bool b9]) μ2)) p):=by
 unfold CR at h |-;cases res with
 |none=>obtain⟨k,v,xs,e,h1,h2,h3,h4,h5,h6,h7⟩:=h;refine⟨k,LV.cv (CV.sl xs),xs,e,h1,h2,rfl,h4,h5,h6,?_⟩;rw[h7,bV];simp only[dF,bx,dc,h3,bX,cR]
 |some q=>obtain⟨k,v,xs,h1,h2,h3,h4,h5⟩:=h;refine⟨k,LV.cv (CV.sl xs),xs,h1,h2,rfl,h4,?_⟩;rw[h5,bV];simp only[dF,bx,dc,h3,bX,cR]
def JI {k:Int}{xs:List CV}{K:St->Option Out}(hK: ∀xs b ν,K (kC xs b ν)=iX xs b ν):opt (lV (ev E) lv i k xs false μ) K=iX xs false μ:=by have hl:wG (ev E) lv i k xs false μ=some (kD xs false μ):=cC (by rw[Fs,bI]);have:lV (ev E) lv i k xs false μ=some (kC xs false μ):=ck (by rw[Nz,hl,bx,D3]);rw[this,bx,hK]
def IL (h:Rdr μ lv i l n){k:Int}{xs:List CV}:(Ig lv i k xs true).rK (ev E) μ=match ew k (opR (l.drop n)) 25 0 with
 |some j=>opt (Lr (ev E) lv i k xs (j:Int) μ) (kR (ev E) H60 [.block 2] [(11,2),(12,0)] (cN 60 504))|none=>if n<l.length then some (lC xs true μ)else some (kD xs true μ):=by
 have ro:ce μ lv i= .cells [LV.cv (CV.sl (bS l)),bv (n:Int)]:=h.ob;have e1: ∀m:Int,strip (bv m)=bv m:=λ_=>rfl;have e2:strip (LV.cv (CV.sl (bS l)))=LV.cv (CV.sl (bS l)):=rfl;rw[Fs,bH,ro];simp only[vR,qV,e1,e2,bx,eo,o6,jM];rcases fu n l.length with hn|hn
 ·rw[co bu,bH,qm,dK hn,gN,bx,m7,agr,bV,dY hn,bC hn];have ho:ew k (opR (l[n]::l.drop (n+1))) 25 0=match B8 l[n]with|some j=>if wh (9+(j:Int))=k then some (9+j)else none|none=>none:=by
   unfold B8 opR;dsimp only;by_cases hk:l[n].kind=2
   ·rw[bC hk,bC hk];exact ajx
   ·rw[bB hk,bB hk];cases hf:ew k [] 25 0 with|none=>rfl|some j=>exact absurd rfl (lH hf)
  rw[ho];cases B8 l[n]with
  |none=>rfl|some j=>
   simp only[dF,bx,dc,eo,bX,cR,cS,bI,ah9,bV];by_cases hl:wh (9+(j:Int))=k
   ·rw[bC hl,co hl,cS,bI];rfl
   ·rw[bB hl,cl hl,c8,bH]
 ·rw[cl bu,bI,dS hn,opR,bB bu];cases hf:ew k [] 25 0 with|none=>rfl|some j=>exact absurd rfl (lH hf)
def abf (ih:RAll f)(h:Rdr μ lv i l n)(hv:VO l)(hl:l.length<=1000)(h1:1<=k)(h9:k<=9){j:Nat}{t:T}{xs:List CV}{kk:T->List Tok->PR T}{K:St->Option Out}(hx:dL xs (t.flat 0))(ht:t.len<=4*n)
 (hop:opR (l.drop n)≠[]) (hp:cY (cJ f (k+1) (l.drop n).tail) (λu r=>kk (bin j t u) r)=some res)
 (hg: ∀u m ys,n+1<=m->m<=l.length->dL ys ((bin j t u).flat 0)->(bin j t u).len<=4*m->kk (bin j t u) (l.drop m)=some res->CR (rS μ lv i l m) lv i l m (bin j t u).len res (K (if k=5 then oS ys true (rS μ lv i l m)else oT lv i (k:Int) ys true (rS μ lv i l m))))
 (hb: ∀ys ν,K (if k=5 then oS ys false ν else oT lv i (k:Int) ys false ν)=iX ys false ν):
 CR μ lv i l n t.len res (opt (Lr (ev E) lv i (k:Int) xs (j:Int) μ) K):=by
 obtain⟨hn,ht1⟩:=IE hop;rw[ht1]at hp;have h2:=h.to hn;have hc5:decide ((k:Int)=5)=decide (k=5):=by
  by_cases h5:k=5
  ·subst h5;rfl
  ·rw[cl h5,cl bu]
 refine CR.segO ?_;rw[acS,Bp h.ob h.small,dy bu,cU];refine CR.up (m:=n+1) (c':=t.len+4) ?_ bu bu;refine CR.seq h2.le hp ((oB f).level _ _) (λr hr=>ih.level (k:=k+1) h2 hv hl bu bu hr) (λu m v ys _ hnm hm hlen hgv hy e=> ?_) (λhr m v ys e hnm hm hgv hy ha hc=> ?_)
 ·have hbl:=wN (k:=(j:Int)) (t:=t) (u:=u);simp only[dF,bx,dc,hgv,bX,cR];rw[cU,mN (z:=[some t,some u]) (cs:=[CV.sl xs,CV.sl ys]) (EsR.two rfl hx rfl hy) (by simp[lnA];omega) (.inl rfl),bV,iT,bx,hc5];rw[kN];have:=hg u m (cO ((bin j t u).flat 0)) bu hm (dL.cv _) bu e;refine CR.up (m:=m) (c':=(bin j t u).len) ?_ (ct _) bu;rw[kN];have hk: ∀ν:Mu,opt (bif decide (k=5)then some (oS (cO ((T.mk (j:Int) 0 [] [some t,some u]).flat 0)) true ν)else some (oT lv i (k:Int) (cO ((T.mk (j:Int) 0 [] [some t,some u]).flat 0)) true ν)) K=K (if k=5 then oS (cO ((bin j t u).flat 0)) true ν else oT lv i (k:Int) (cO ((bin j t u).flat 0)) true ν):=λν=>by
   by_cases h5:k=5
   ·rw[co h5,bC h5];rfl
   ·rw[cl h5,bB h5];rfl
  rw[hk];exact this
 ·have hts:=T.size_len t
  obtain ⟨e', a1, a2, a3⟩ := vD (μ := rS (rS μ lv i l (n + 1)) lv i l m) (k := (j : Int)) (s := []) (es := [t.flat 0, e]) (cs := [CV.sl xs, CV.sl ys]) (EsR.two rfl hx rfl hy) (λg hg x hxg => by
   rcases ed.1 hg with rfl|hg
   ·have:=rX t 0 x hxg;omega
   ·rw[kU]at hg;subst hg
    exact ha x hxg) (by rw[fQ,fQ,T.flat_len];simp[lP];omega) bE
  rw[fQ,fQ,T.flat_len]at a2;simp only[lP,iA,Ds]at a2;simp only[dF,bx,dc,hgv,bX,cR];rw[cU,a3,bV,iT,bx,hc5];refine CR.bad (v:=LV.cv (CV.sl (cO e'))) (h2.to hm) rfl (dL.cv e') a1 bu ?_;have:=hb (cO e') (rS (rS μ lv i l (n+1)) lv i l m);by_cases h5:k=5
  ·rw[bC h5]at this;rw[co h5,bH,bx,this];rfl
  ·rw[bB h5]at this;rw[cl h5,bI,bx,this];rfl
def XB {k:Int}{xs:List CV}:wG (ev E) lv i k xs false μ=some (kD xs false μ):=cC (by rw[Fs,bI])
def WQ (ih:RAll f){t:T}{xs:List CV}{K:St->Option Out}(h:Rdr μ lv i l n)(hv:VO l)(hl:l.length<=1000)(h1:1<=k)(h9:k<=9)(h5:k≠5)(hx:dL xs (t.flat 0))(ht:t.len<=4*n)
 (k0: ∀xs b ν,K (lC xs b ν)=iX xs b ν) (k2: ∀xs b ν,K (kD xs b ν)=iX xs b ν) (hp:gm (f+1) k t (l.drop n)=some res):CR μ lv i l n t.len res (opt (wG (ev E) lv i (k:Int) xs true μ) K):=by
 refine CR.loopO ?_;rw[IL h];rw[gm]at hp;cases ho:ew (k:Int) (opR (l.drop n)) 25 0 with
 |none=>
  rw[ho]at hp;injection hp with hp;subst hp;dsimp only;split
  ·rw[bx,k0];exact CR.good (v:=LV.cv (CV.sl xs)) h rfl hx rfl
  ·rw[bx,k2];exact CR.good (v:=LV.cv (CV.sl xs)) h rfl hx rfl
 |some j=>
  rw[ho]at hp;dsimp only;rw[f8];refine abf ih h hv hl h1 h9 (kk:=λt' r=>gm f k t' r) hx ht (lH ho) hp (λu m ys hm1 hm hy hlen e=> ?_) (λys ν=> ?_)
  ·rw[bB h5,DY];exact ih.loop (h.to hm) hv hl h1 h9 h5 hy hlen k0 k2 e
  ·rw[bB h5,DY,XB,bx,k2]
def nO (f k:Nat)(t:T)(r:List Tok):PR T:=
 if k = 4 then d9 t r else if k = 5 then (match ew 5 (opR r) 25 0 with
  |some j=>cY (cJ f 6 r.tail) λu r=>d9 (bin j t u) r
  |none=>d9 t r)else gm f k t r
def Ud {b:List UInt8}: ∀{m k:Nat},k+m<=25->ew 4 b m k=none
 |0,k,h=>rfl|m+1,k,h=>by have key: ∀k:Nat,k<25-> ¬(vL (k:Int)=2/\lvl (k:Int)=4):=cf;rw[ew,bB (λe=>key k bu ⟨e.1,e.2.2.1⟩),Ud bu]
def MT (ih:RAll f){t:T}{xs:List CV}{K:St->Option Out}(h:Rdr μ lv i l n)(hv:VO l)(hl:l.length<=1000)(h1:1<=k)(h9:k<=9)(hx:dL xs (t.flat 0))(ht:t.len<=4*n)(hK: ∀xs b ν,K (kC xs b ν)=iX xs b ν)
 (hp:nO f k t (l.drop n)=some res):CR μ lv i l n t.len res (opt (lV (ev E) lv i (k:Int) xs true μ) K):=by
 have k0: ∀xs b ν,opt (kS (ev E) H60 [.block 1,.seq (cN 60 127)] [(4,2),(5,0)] (lC xs b ν)) K=iX xs b ν:=λxs b ν=>by rw[Rw,bx,hK]
 have k2: ∀xs b ν,opt (kS (ev E) H60 [.block 1,.seq (cN 60 127)] [(4,2),(5,0)] (kD xs b ν)) K=iX xs b ν:=λxs b ν=>by rw[D3,bx,hK]
 refine CR.segO ?_;rw[Nz,f8];unfold nO at hp;by_cases c4:k=4
 ·subst c4;rw[bC rfl]at hp;injection hp with hp;subst hp;refine CR.loopO ?_;rw[IL h,show (((4:Nat):Int))=4 from rfl,Ud bu];dsimp only;split
  ·rw[bx,k0];exact CR.good (v:=LV.cv (CV.sl xs)) h rfl hx rfl
  ·rw[bx,k2];exact CR.good (v:=LV.cv (CV.sl xs)) h rfl hx rfl
 rw[bB c4]at hp;by_cases c5:k=5
 ·subst c5;rw[bC rfl]at hp;refine CR.loopO ?_;rw[IL h,show (((5:Nat):Int))=5 from rfl];cases ho:ew 5 (opR (l.drop n)) 25 0 with
  |none=>
   rw[ho]at hp;injection hp with hp;subst hp;dsimp only;split
   ·rw[bx,k0];exact CR.good (v:=LV.cv (CV.sl xs)) h rfl hx rfl
   ·rw[bx,k2];exact CR.good (v:=LV.cv (CV.sl xs)) h rfl hx rfl
  |some j=>
   rw[ho]at hp;dsimp only;rw[f8];refine abf (k:=5) ih h hv hl h1 h9 (kk:=λt' r=>d9 t' r) hx ht (lH ho) hp (λu m ys hm1 hm hy hlen e=> ?_) (λys ν=> ?_)
   ·injection e with e;subst e;rw[bC rfl,DX,bx,k0];exact CR.good (v:=LV.cv (CV.sl ys)) (h.to hm) rfl hy rfl
   ·rw[bC rfl,DX,bx,k0]
 rw[bB c5]at hp;exact ih.loop h hv hl h1 h9 c5 hx ht k0 k2 hp
def Vw {g:Nat}(ih:RAll f)(ihg:RAll g){K:St->Option Out}{F:LV->Mu->Option Out}{p:CV->Mu->Option Out}{c:Nat}(hF: ∀v xs b ν,cj v=some xs->F (.ltup [v,LV.bool b]) ν=opt (lV (ev E) lv i (k:Int) xs b ν) K)(h:Rdr μ lv i l n)(hv:VO l)(hl:l.length<=1000)(h1:1<=k)(h9:k<=9)(hK: ∀xs b ν,K (kC xs b ν)=iX xs b ν)
 (hp:cY (cJ g (k+1) (l.drop n)) (nO f k)=some res):
 CR μ lv i l n c res (callK ((ev E).call 60 [LV.cv (CV.ref lv i 0),bv (IntKind.wrap .i64 ((k:Int)+1))] μ) F p):=by
 rw[dy bu];refine CR.seq h.le hp ((oB g).level _ _) (λr hr=>ihg.level (k:=k+1) h hv hl bu bu hr) (λt m v xs _ hnm hm hlen hgv hx e=> ?_) (λhr m v xs e hnm hm hgv hx ha hc=> ?_)
 ·rw[hF v xs true _ hgv];refine CR.up (m:=m) (c':=t.len) ?_ (ct _) bu;have:=MT ih (h.to hm) hv hl h1 h9 hx bu hK e;rw[kN];exact this
 ·rw[hF v xs false _ hgv,JI hK];exact CR.bad (v:=LV.cv (CV.sl xs)) (h.to hm) rfl hx ha bu rfl
def Yc {x:PR T}:cY x (λt r=>d9 t r)=x:=by
 cases x with|none=>rfl|some y=>cases y<;>rfl
def rh {α β γ:Type}{x:PR α}{g:α->List Tok->PR β}{k:β->List Tok->PR γ}:cY (cY x g) k=cY x λa r=>cY (g a r) k:=by
 cases x with|none=>rfl|some y=>cases y<;>rfl
def Za {g:Nat}(ih:RAll f)(ihg:RAll g){K:St->Option Out}{F:LV->Mu->Option Out}{F2:Bool->LV->Mu->Option Out}{p p2:CV->Mu->Option Out}{c:Nat}{z:Int}
 (hF: ∀v xs b ν,cj v=some xs->F (.ltup [v,LV.bool b]) ν=callK ((ev E).call 45 [LV.cv (CV.agg [bF z,bF 0,CV.str [],CV.v (.slice none 0 0)]),LV.osl [CV.sl xs]] ν) (F2 b) p2)
 (hF2: ∀xs b ν,F2 b (LV.osl xs) ν=opt (lV (ev E) lv i ((7:Nat):Int) xs b ν) K)
 (h:Rdr μ lv i l n) (hv:VO l) (hl:l.length<=1000) (hK: ∀xs b ν,K (kC xs b ν)=iX xs b ν) (hn:n+1<=l.length)
 (hp:cY (cJ g 8 (l.drop (n+1))) (λu r=>nO f 7 (un z u) r)=some res):
 CR μ lv i l n c res (callK ((ev E).call 60 [LV.cv (CV.ref lv i 0),bv 8] (rS μ lv i l (n+1))) F p):=by
 have h2:=h.to hn;refine CR.up (m:=n+1) (c':=c+4) ?_ bu bu;refine CR.seq h2.le hp ((oB g).level _ _) (λr hr=>ihg.level (k:=8) h2 hv hl bu bu hr) (λu m v xs _ hnm hm hlen hgv hx e=> ?_) (λhr m v xs e hnm hm hgv hx ha hc=> ?_)
 ·have hul:=CA (k:=z) (t:=u);rw[hF v xs true _ hgv,mN (z:=[some u]) (cs:=[CV.sl xs]) (EsR.one rfl hx) (by simp[lnA];omega) (.inl rfl),bV,hF2];refine CR.up (m:=m) (c':=(un z u).len) ?_ (ct _) bu;have:=MT ih (h2.to hm) hv hl (k:=7) (t:=un z u) bu bu (dL.cv _) bu hK e;rw[kN]at this |-;rw[kN];exact this
 ·obtain ⟨e', a1, a2, a3⟩ := vD (μ := rS (rS μ lv i l (n + 1)) lv i l m) (k := z) (s := []) (es := [e]) (cs := [CV.sl xs]) (EsR.one rfl hx) (λg hg x hxg => by
   rw[kU]at hg;subst hg
   exact ha x hxg) (by rw[fQ];simp[lP];omega) bE
  rw[fQ]at a2;simp only[lP,iA,Ds]at a2;rw[hF v xs false _ hgv,a3,bV,hF2,JI hK];exact CR.bad (v:=LV.cv (CV.sl (cO e'))) (h2.to hm) rfl (dL.cv e') a1 bu rfl
def MS (ih:RAll f)(ih': ∀g,g<f->RAll g){K:St->Option Out}{c:Nat}(h:Rdr μ lv i l n)(hv:VO l)(hl:l.length<=1000)(h1:1<=k)(h9:k<=9)(hK: ∀xs b ν,K (vp xs b ν)=iX xs b ν)
 (hp:cY (if k=4 then cJ f 5 (l.drop n)else if k=5 then cJ f 6 (l.drop n)else fv f k (l.drop n)) (nO f k)=some res):CR μ lv i l n c res (opt (Lq (ev E) lv i (k:Int) μ) K):=by
 have hK2: ∀xs b ν,opt (kS (ev E) H60 [] [(4,2),(5,0)] (kC xs b ν)) K=iX xs b ν:=λxs b ν=>by rw[QW,bx,hK]
 refine CR.segO ?_;rw[acR];have plain: ∀{g m c:Nat} {ν:Mu} {p:CV->Mu->Option Out},RAll g->Rdr ν lv i l m->cY (cJ g (k+1) (l.drop m)) (nO f k)=some res->
  CR ν lv i l m c res (callK ((ev E).call 60 [LV.cv (CV.ref lv i 0),bv (IntKind.wrap .i64 ((k:Int)+1))] ν) (λv μ=>opt ((λv188 μ189=>opt (ci v188) λxs192=>opt (bG xs192) λq193=>opt (cj q193.1) λl194=>opt (bG q193.2) λq195=>opt (bO q195.1) λb196=>opt (bZ q195.2) λu197=>opt (lV (ev E) lv i (k:Int) l194 b196 μ189) (kS (ev E) H60 [] [(4,2),(5,0)])) v μ) K) p):=λ{g m c ν p} rg hr hp=>
  Vw (K:=λa=>opt (kS (ev E) H60 [] [(4,2),(5,0)] a) K) ih rg (λv xs b ν hgv=>by simp only[dF,bx,dc,hgv,bX,cR,f8]) hr hv hl h1 h9 hK2 hp
 by_cases c7:k=7
 ·subst c7;rw[bB bu,bB bu]at hp;rw[show decide (((7:Nat):Int)=7)=true from rfl,bH,j1 h hv bE,bV,bX,bx];cases f with
  |zero=>simp[fv,cY]at hp|succ g=>
   rw[fv,bC rfl]at hp;have rg:=ih' g bu;have sign: ∀{z z2:Int} {p:CV->Mu->Option Out},z2=z->n+1<=l.length->cY (cJ g 8 (l.drop (n+1))) (λu r=>nO (g+1) 7 (un z u) r)=some res->
    CR μ lv i l n c res (callK ((ev E).call 60 [LV.cv (CV.ref lv i 0), bv 8] (rS μ lv i l (n + 1))) (λv μ => opt ((λv80 μ81 => opt (ci v80) λxs84 => opt (bG xs84) λq85 => opt (cj q85.1) λl86 => opt (bG q85.2) λq87 => opt (bO q87.1) λb88 => opt (bZ q87.2) λu89 =>
     callK ((ev E).call 45 [LV.cv (CV.agg [bF z2,bF 0,CV.str [],CV.v (.slice none 0 0)]),LV.osl [CV.sl l86]] μ81) (λv90 μ91=>opt (cj v90) λl94=>opt (lV (ev E) lv i ((7:Nat):Int) l94 b88 μ91) (kS (ev E) H60 [] [(4,2),(5,0)])) (pX gZ)) v μ) K) p):=λ{z z2 p} hz hn hp=>by
    subst hz
    exact Za (K := λa => opt (kS (ev E) H60 [] [(4, 2), (5, 0)] a) K) (F2 := λb v90 μ91 => opt (opt (cj v90) λl94 => opt (lV (ev E) lv i ((7 : Nat) : Int) l94 b μ91) (kS (ev E) H60 [] [(4, 2), (5, 0)])) K) ih rg (λv xs b ν hgv => by
     simp only[dF,bx,dc,hgv,bX,cR]
     rw[cU]) (λxs b ν=>by simp only[iT,bx,f8]) h hv hl hK2 hn hp
   have bit: ∀b:Bool,∀μ:Mu,(ev E).call 42 [LV.bool b] μ=some (.ret (bv (if b then 1 else 0)) μ):=λb μ=>bW (by rw[akD];cases b<;>rfl);cases t1:cI [43] (l.drop n)with
   |some r=>
    obtain⟨hn,rfl⟩:=gU bE t1;rw[t1]at hp;dsimp only at hp;rw[rh]at hp;have ho:opR (l.drop n)=[43]:=by
     unfold cI at t1;split at t1
     ·assumption
     ·cases t1
    rw[ho,show decide (([43]:List UInt8)=[43])=true from rfl,bH,j1 h hv bE,bV,bX,bx,ho,show decide (([43]:List UInt8)=[45])=false from rfl,bit,bV,eo,bx,Bp h.ob h.small,cU];exact sign (z:=6) rfl hn hp
   |none=>
    rw[t1]at hp;dsimp only at hp;have ho: ¬opR (l.drop n)=[43]:=λe=>by unfold cI at t1;rw[bC e]at t1;cases t1
    rw[cl ho,bI,j1 h hv bE,bV,bX,bx];cases t2:cI [45] (l.drop n)with
    |some r=>
     obtain⟨hn,rfl⟩:=gU bE t2;rw[t2]at hp;dsimp only at hp;rw[rh]at hp;have ho:opR (l.drop n)=[45]:=by
      unfold cI at t2;split at t2
      ·assumption
      ·cases t2
     rw[ho,show decide (([45]:List UInt8)=[45])=true from rfl,bH,j1 h hv bE,bV,bX,bx,ho,show decide (([45]:List UInt8)=[45])=true from rfl,bit,bV,eo,bx,Bp h.ob h.small,cU];exact sign (z:=7) rfl hn hp
    |none=>
     rw[t2]at hp;dsimp only at hp;have ho: ¬opR (l.drop n)=[45]:=λe=>by unfold cI at t2;rw[bC e]at t2;cases t2
     rw[cl ho,bI,cU];exact plain rg h hp
 ·rw[cl bu,bI,cU];by_cases c4:k=4
  ·subst c4;rw[bC rfl]at hp;exact plain ih h hp
  rw[bB c4]at hp;by_cases c5:k=5
  ·subst c5;rw[bC rfl]at hp;exact plain ih h hp
  rw[bB c5]at hp;cases f with|zero=>simp[fv,cY]at hp|succ g=>rw[fv,bB c7]at hp;exact plain (ih' g bu) h hp
def RL (ih:RAll f)(ih': ∀g,g<f->RAll g)(h:Rdr μ lv i l n)(hv:VO l)(hl:l.length<=1000)(h1:1<=k)(h10:k<=10)(hp:cJ (f+1) k (l.drop n)=some res):CR μ lv i l n 0 res ((ev E).call 60 [LV.cv (CV.ref lv i 0),bv (k:Int)] μ):=by
 refine CR.ev ?_;rw[akM];rw[cJ]at hp;have hK: ∀xs b ν,kB (ev E) 60 H60 [] (vp xs b ν)=iX xs b ν:=λxs b ν=>QV _ _ _ _;by_cases c10:k=10
 ·subst c10;rw[bC rfl]at hp;rw[show decide (((10:Nat):Int)=10)=true from rfl,bH];exact CR.same (ih.prim h hv hl hp)
 rw[bB c10]at hp;rw[show decide ((k:Int)=10)=false by simp;omega,bI];by_cases c9:k=9
 ·subst c9;rw[bC rfl]at hp;rw[show decide (((9:Nat):Int)=9)=true from rfl,bH];refine CR.seq h.le hp ((oB f).prim _) (λr hr=>ih.prim h hv hl hr) (λt m v xs _ hnm hm hlen hgv hx e=> ?_) (λhr m v xs e hnm hm hgv hx ha hc=> ?_)
  ·have h2:=h.to hm;simp only[dF,bx,dc,hgv,bX,cR,cS,bI];refine CR.take h2 hv bE (λhn t1=> ?_) (λt1=> ?_)
   ·rw[t1]at e;dsimp only at e;have h3:=h2.to hn;simp only[bX,bx,cS,bI];refine CR.segO ?_;rw[afp,cU];refine CR.seq h3.le e ((oB f).level _ _) (λr hr=>ih.level (k:=9) h3 hv hl bu bu hr) (λu m2 v2 ys _ hnm2 hm2 hlen2 hgv2 hy e2=> ?_) (λhr m2 v2 ys e' hnm2 hm2 hgv2 hy ha2 hc2=> ?_)
    ·injection e2 with e2;subst e2;simp only[dF,bx,dc,hgv2,bX,cR];rw[cU,mN (z:=[some t,some u]) (cs:=[CV.sl xs,CV.sl ys]) (EsR.two rfl hx rfl hy) (by simp[lnA];omega) (.inl rfl),bV,iT,bx,bx,G7];exact CR.good (v:=LV.cv (CV.sl _)) (h3.to hm2) rfl (dL.cv _) rfl
    ·have hts:=T.size_len t
     obtain ⟨e3, a1, a2, a3⟩ := vD (μ := rS (rS (rS μ lv i l m) lv i l (m + 1)) lv i l m2) (k := 9) (s := []) (es := [t.flat 0, e']) (cs := [CV.sl xs, CV.sl ys]) (EsR.two rfl hx rfl hy) (λg hg x hxg => by
      rcases ed.1 hg with rfl|hg
      ·have:=rX t 0 x hxg;omega
      ·rw[kU]at hg;subst hg
       exact ha2 x hxg) (by rw[fQ,fQ,T.flat_len];simp[lP];omega) bE
     rw[fQ,fQ,T.flat_len]at a2;simp only[lP,iA,Ds]at a2;simp only[dF,bx,dc,hgv2,bX,cR];rw[cU,a3,bV,iT,bx,bx,G7];exact CR.bad (v:=LV.cv (CV.sl (cO e3))) (h3.to hm2) rfl (dL.cv e3) a1 bu rfl
   ·rw[t1]at e;injection e with e;subst e;simp only[bX,bx,c8,bH];exact CR.good (v:=LV.cv (CV.sl xs)) h2 rfl hx rfl
  ·simp only[dF,bx,dc,hgv,bX,cR,c8,bH];exact CR.bad (v:=LV.cv (CV.sl xs)) (h.to hm) rfl hx ha bu rfl
 rw[bB c9]at hp;rw[show decide ((k:Int)=9)=false by simp;omega,bI];by_cases c4:k=4
 ·subst c4;rw[bC rfl]at hp;rw[show decide (((4:Nat):Int)=4)=true from rfl,bH];refine CR.take h hv bE (λhn t1=> ?_) (λt1=> ?_)
  ·rw[t1]at hp;dsimp only at hp;have h2:=h.to hn;simp only[bX,bx,bH];refine CR.seq h2.le hp ((oB f).level _ _) (λr hr=>ih.level (k:=4) h2 hv hl bu bu hr) (λu m v xs _ hnm hm hlen hgv hx e=> ?_) (λhr m v xs e hnm hm hgv hx ha hc=> ?_)
   ·injection e with e;subst e;simp only[dF,bx,dc,hgv,bX,cR];rw[mN (z:=[some u]) (cs:=[CV.sl xs]) (EsR.one rfl hx) (by simp[lnA];omega) (.inl rfl),bV,iT,bx];exact CR.good (v:=LV.cv (CV.sl _)) (h2.to hm) rfl (dL.cv _) rfl
   ·obtain ⟨e', a1, a2, a3⟩ := vD (μ := rS (rS μ lv i l (n + 1)) lv i l m) (k := 8) (s := []) (es := [e]) (cs := [CV.sl xs]) (EsR.one rfl hx) (λg hg x hxg => by
     rw[kU]at hg;subst hg
     exact ha x hxg) (by rw[fQ];simp[lP];omega) bE
    rw[fQ]at a2;simp only[lP,iA,Ds]at a2;simp only[dF,bx,dc,hgv,bX,cR];rw[a3,bV,iT,bx];exact CR.bad (v:=LV.cv (CV.sl (cO e'))) (h2.to hm) rfl (dL.cv e') a1 bu rfl
  ·rw[t1]at hp;dsimp only at hp;simp only[bX,bx,bI];refine MS (k:=4) ih ih' h hv hl h1 bu hK ?_;rw[bC rfl];have:nO f 4=λt r=>d9 t r:=by funext t r;unfold nO;rw[bC rfl]
   rw[this,Yc];exact hp
 rw[bB c4]at hp;rw[show decide ((k:Int)=4)=false by simp;omega,bI];refine MS ih ih' h hv hl h1 bu hK ?_;rw[bB c4];by_cases c5:k=5
 ·subst c5;rw[bC rfl]at hp |-;have:nO f 5=λt r=>match ew 5 (opR r) 25 0 with|some k=>cY (cJ f 6 r.tail) λu r=>d9 (bin k t u) r|none=>d9 t r:=by funext t r;unfold nO;rw[bB bu,bC rfl]
  rw[this];exact hp
 ·rw[bB c5]at hp |-;have:nO f k=λt r=>gm f k t r:=by funext t r;unfold nO;rw[bB c4,bB c5]
  rw[this];exact hp
end
section
variable {μ:Mu}{lv i n k f:Nat}{l:List Tok}{res:Option (T×List Tok)}
def ad5 {k y:Int}{s:List UInt8}:dL [CV.agg [bF k,bF y,CV.str s,CV.v (.slice none 0 0)]] ((T.mk k y s []).flat 0):=by
 have e:(T.mk k y s []).flat 0=[⟨k,y,s,[]⟩]:=by rw[T.flat,fe,dO];rfl
 rw[e];refine⟨rfl,λi x h=> ?_⟩;cases i with
 |zero=>injection h with h;subst h;exact⟨_,rfl,_,rfl,rfl⟩
 |succ i=>simp at h
def FF {s:List UInt8}{r r':List Tok}(h:cI s r=some r'):opR r=s:=by
 unfold cI at h;split at h
 ·assumption
 ·cases h
def Eg {s s':List UInt8}{r r':List Tok}(h:cI s r=some r')(hs:s≠s'):cI s' r=none:=by unfold cI;rw[bB (by rw[FF h];exact hs)]
def zf {α:Type}{s:List UInt8}{r r':List Tok}{k:List Tok->PR α}(h:cI s r=some r'):jJ s r k=k r':=by unfold jJ;rw[h]
def ze {α:Type}{s:List UInt8}{r:List Tok}{k:List Tok->PR α}(h:cI s r=none):jJ s r k=failP:=by unfold jJ;rw[h]
def RM {xs:List CV}{K:St->Option Out}(hK: ∀xs b ν,K (jf xs b ν)=iX xs b ν):opt (opt (wu (ev E) lv i xs false μ) (kS (ev E) jA [.block 0,.seq (cN 100 63)] [(2,2),(3,0)])) K=iX [] false μ:=by have:wu (ev E) lv i xs false μ=some (ii μ):=ck (by rw[JY,bI]);rw[this,bx,BR,bx,hK]
def WT (ih:RAll f){K:St->Option Out}{t:T}{xs:List CV}{c:Nat}(h:Rdr μ lv i l n)(hv:VO l)(hl:l.length<=1000)(ht:okT t)(hx:dL xs (t.flat 0))(hlen:t.len<=4*n)(hK: ∀xs b ν,K (jf xs b ν)=iX xs b ν)(h41:cI [41] (l.drop n)=none)
 (hp : (match cI [44] (l.drop n) with
  |some r=>cY (cJ f 1 r) λu r=>if eM t&&eM u then jJ [41] r λr=>d9 (bin 4 t u) r else failP
  |none=>jJ [41] (l.drop n) λr=>d9 (un 5 t) r)=some res):
 CR μ lv i l n c res (opt (opt (wu (ev E) lv i xs true μ) (kS (ev E) jA [.block 0,.seq (cN 100 63)] [(2,2),(3,0)])) K):=by
 have k2: ∀ν,opt (kS (ev E) jA [.block 0,.seq (cN 100 63)] [(2,2),(3,0)] (ii ν)) K=iX [] false ν:=λν=>by rw[BR,bx,hK]
 have k0: ∀xs b ν,opt (kS (ev E) jA [.block 0,.seq (cN 100 63)] [(2,2),(3,0)] (xY xs b ν)) K=iX xs b ν:=λxs b ν=>by rw[NX,bx,hK]
 rw[f8];refine CR.segO ?_;rw[JY,bH,cU];refine CR.take h hv bE (λhn t1=> ?_) (λt1=> ?_)
 ·rw[t1]at hp;dsimp only at hp;have h2:=h.to hn;rw[bX,bx,bH,cU];refine CR.seq h2.le hp ((oB f).level _ _) (λr hr=>ih.level (k:=1) h2 hv hl bu bu hr) (λu m v ys hX hnm hm hlen2 hgv hy e=> ?_) (λhr m v ys e hnm hm hgv hy ha hc=> ?_)
  ·have hu:okT u:=(KY f).level _ _ _ _ hX;have h3:=h2.to hm;simp only[dF,bx,dc,hgv,bX,cR,bH];rw[cU];have hsT:=T.size_len t;have hsU:=T.size_len u;refine CR.take h3 hv bE (λhn3 t3=> ?_) (λt3=> ?_)
   ·have h4:=h3.to hn3;rw[bX,bx,bH,Zz hx ht bu,bV,bX,bx];cases p1:eM t with
    |false=>rw[p1]at e;injection e with e;subst e;rw[bI,bx,k2];exact CR.stop (v:=LV.cv (CV.sl [])) h4 rfl rfl
    |true=>
     rw[bH,Zz hy hu bu,bV,bX,bx];cases p2:eM u with
     |false=>rw[p1,p2]at e;injection e with e;subst e;rw[bI,bx,k2];exact CR.stop (v:=LV.cv (CV.sl [])) h4 rfl rfl
     |true=>rw[p1,p2,j9,bC rfl,zf t3]at e;injection e with e;subst e;have s1:=J7 ht p1;have s2:=J7 hu p2;rw[bH,hx.1,hy.1,T.flat_len,T.flat_len,co bu,bH,co bu,bH,cU,mN (z:=[some t,some u]) (cs:=[CV.sl xs,CV.sl ys]) (EsR.two rfl hx rfl hy) (by simp[lnA];omega) (.inl rfl),bV,iT,bx,bx,k0];exact CR.good (v:=LV.cv (CV.sl _)) h4 rfl (dL.cv _) rfl
   ·have hres:res=none:=by
     cases hpp:(eM t&&eM u)with
     |true=>rw[hpp,bC rfl,ze t3]at e;injection e with e;exact e.symm
     |false=>rw[hpp]at e;injection e with e;exact e.symm
    subst hres;rw[bX,bx,bI,bx,k2];exact CR.stop (v:=LV.cv (CV.sl [])) h3 rfl rfl
  ·simp only[dF,bx,dc,hgv,bX,cR,bI];rw[k2];exact CR.stop (v:=LV.cv (CV.sl [])) (h2.to hm) rfl rfl
 ·rw[t1,ze h41]at hp;injection hp with hp;subst hp;rw[bX,bx,bI,bx,k2];exact CR.stop (v:=LV.cv (CV.sl [])) h rfl rfl
def WR (ih:RAll f)(h:Rdr μ lv i l n)(hv:VO l)(hl:l.length<=1000)(hp:gR (f+1) (l.drop n)=some res):CR μ lv i l n 0 res ((ev E).call 100 [LV.cv (CV.ref lv i 0)] μ):=by
 refine CR.ev ?_;have ro:ce μ lv i= .cells [LV.cv (CV.sl (bS l)),bv (n:Int)]:=h.ob;have e1: ∀m:Int,strip (bv m)=bv m:=λ_=>rfl;have e2:strip (LV.cv (CV.sl (bS l)))=LV.cv (CV.sl (bS l)):=rfl;have hK: ∀xs b ν,kB (ev E) 100 jA [] (jf xs b ν)=iX xs b ν:=λxs b ν=>PZ _ _ _ _;rw[ain,ro];simp only[vR,qV,e1,e2,bx,eo,o6,jM];rw[gR.eq_def]at hp;dsimp only at hp;rcases fu n l.length with hn|hn
 ·rw[dY hn]at hp;dsimp only at hp;rw[cl bu,bI];refine CR.segO ?_;have hr:cx μ lv i (.cells [LV.cv (CV.sl (bS l)),bv ((n+1:Nat):Int)])=rS μ lv i l (n+1):=rfl;have h1:=h.to hn;rw[acj,ro];simp only[vR,qV,e1,e2,bx,eo,o6,qm,dK hn,gN,m7,Xd,dy h.small,hr];generalize l[n]=x at hp |-;refine CR.up (m:=n+1) (c':=0) ?_ bu bu;by_cases k1:x.kind=1
  ·rw[bC k1]at hp;injection hp with hp;subst hp;rw[co k1,bH,bx,hK];exact CR.good (v:=LV.cv (CV.sl _)) h1 rfl ad5 rfl
  rw[bB k1]at hp;rw[cl k1,bI];by_cases k0:x.kind=0
  ·rw[bC k0]at hp;simp only[co k0,bH];rw[cU];refine CR.take h1 hv bE (λhn2 t1=> ?_) (λt1=> ?_)
   ·rw[t1]at hp;dsimp only at hp;have h2:=h1.to hn2;rw[bX,bx,cS,bI,f8];refine CR.segO ?_;rw[ZU,f8];obtain⟨res1,e3,e4⟩: ∃res1,gQ f [] (l.drop (n+1+1))=some res1/\res=res1.map λq=>(T.mk 2 0 x.text (q.1.map some),q.2):=by
     rcases fU hp with⟨a1,a2⟩|⟨a,r,a1,a2⟩
     ·exact⟨none,a1,a2⟩
     ·injection a2 with a2;exact⟨some (a,r),a1,a2.symm⟩
    rw[e4];have e0:lnS []=0:=by simp[lnS,lnA]
    refine CR.up (m:=n+1+1) (c':=lnS []) ?_ (ct _) (by rw[e0];omega);rw[kN];exact ih.list (zs:=[]) h2 hv hl EsR.nil (by rw[e0];omega) (ox _) (λxs b ν=>by rw[Ov,bx,NV,bx,hK]) e3
   ·rw[t1]at hp;injection hp with hp;subst hp;rw[bX,bx,c8,bH,bx,hK];exact CR.good (v:=LV.cv (CV.sl _)) h1 rfl ad5 rfl
  rw[bB k0]at hp;rw[cl k0,bI];by_cases ks:x.text=[40]
  ·rw[bC ks]at hp;rw[co ks,bH,cU];refine CR.seq h1.le hp ((oB f).level _ _) (λr hr=>ih.level (k:=1) h1 hv hl bu bu hr) (λt m v xs hX hnm hm hlen hgv hx e=> ?_) (λhr m v xs e hnm hm hgv hx ha hc=> ?_)
   ·have ht:okT t:=(KY f).level _ _ _ _ hX;have h2:=h1.to hm;simp only[dF,bx,dc,hgv,bX,cR,bH];rw[cU];refine CR.take h2 hv bE (λhn2 t1=> ?_) (λt1=> ?_)
    ·rw[Eg t1 bE]at e;dsimp only at e;rw[zf t1]at e;injection e with e;subst e;rw[bX,bx,bH,cU,mN (z:=[some t]) (cs:=[CV.sl xs]) (EsR.one rfl hx) (by simp[lnA];omega) (.inl rfl),bV,iT,bx,bx,hK];exact CR.good (v:=LV.cv (CV.sl _)) (h2.to hn2) rfl (dL.cv _) rfl
    ·rw[bX,bx,bI];exact WT ih h2 hv hl ht hx bu hK t1 e
   ·simp only[dF,bx,dc,hgv,bX,cR,bI];rw[RM hK];exact CR.stop (v:=LV.cv (CV.sl [])) (h1.to hm) rfl rfl
  ·rw[bB ks]at hp;injection hp with hp;subst hp;rw[cl ks,bI,bx,hK];exact CR.stop (v:=LV.cv (CV.sl [])) h1 rfl rfl
 ·rw[dS hn]at hp;injection hp with hp;subst hp;rw[co bu,bH];exact CR.stop (v:=LV.cv (CV.v (.slice none 0 0))) h rfl rfl
def ZQ {α β:Type}{res:Option (α×List Tok)}{g:α->β}:cY (some res) (λw r=>d9 (g w) r)=some (res.map λq=>(g q.1,q.2)):=by cases res<;>rfl
def Bj: ∀zs:List (List CV),gj 1 (zs.map CV.sl)=true
 |[]=>rfl|z::r=>by rw[dr];simp only[gj];rw[show fJ 1 (CV.sl z)=true from rfl];exact Bj r
def Fg {acc:List T}{t:T}:lnS (acc++[t])=lnS acc+t.len:=by simp[lnS,mi,lnA]
def TU: ∀acc:List T,(acc.map some).map opN=acc.map (T.flat 0)
 |[]=>rfl|t::r=>by rw[dr,dr,dr,TU r];rfl
def WP (ih:RAll f){acc:List T}{zs:List (List CV)}{a b:Int}{s:List UInt8}{res:Option (List T×List Tok)}{K:St->Option Out}(h:Rdr μ lv i l n)(hv:VO l)(hl:l.length<=1000)(hE:EsR (zs.map CV.sl) (acc.map (T.flat 0)))(hln:lnS acc<=4*n)(han:acc.length<=n)
 (hK: ∀xs b ν,K (pE xs b ν)=iX xs b ν) (hp:gQ (f+1) acc (l.drop n)=some res):
 CR μ lv i l n (lnS acc) (res.map λq=>(T.mk 2 0 s (q.1.map some),q.2)) (opt (CG (ev E) lv i (zs.map CV.sl) a b s μ) K):=by
 rw[gQ]at hp;have hp2:cY (kn f (l.drop n)) (λt r=>cY (match cI [44] r with|some r=>gQ f (acc++[t]) r|none=>jJ [41] r λr=>d9 (acc++[t]) r) λw r=>d9 (T.mk 2 0 s (w.map some)) r)=some (res.map λq=>(T.mk 2 0 s (q.1.map some),q.2)):=by rw[<-rh];exact(mE (λx=>cY x λw r=>d9 (T.mk 2 0 s (w.map some)) r) hp).trans ZQ
 refine CR.loopO ?_;rw[aam,cU];refine CR.seq h.le hp2 ((oB f).arg _) (λr hr=>ih.arg h hv hl hr) (λt m v xs hX hnm hm hlen hgv hx e=> ?_) (λhr m v xs e hnm hm hgv hx ha hc=> ?_)
 ·have h1:=h.to hm;have hp:=T.len_pos t;simp only[dF,bx,dc,hgv,bX,cR,cS,bI];rw[f8];refine CR.segO ?_;have hz:zs.map CV.sl++[CV.sl xs]=(zs++[xs]).map CV.sl:=bE;have hac:(acc++[t]).map (T.flat 0)=acc.map (T.flat 0)++[t.flat 0]:=bE;have hE2:EsR ((zs++[xs]).map CV.sl) ((acc++[t]).map (T.flat 0)):=by rw[<-hz,hac];exact hE.snoc rfl hx
  have hzl:zs.length=acc.length:=by have:=hE.1;simpa using this
  have hap:eq 1 (zs.map CV.sl) [CV.sl xs]=true:=mf b7 (Bj _) (Bj [xs]);rw[ZV,hap,cK,hz,cU];refine CR.take h1 hv bE (λhn2 t1=> ?_) (λt1=> ?_)
  ·rw[Eg t1 bE]at e;dsimp only at e;rw[zf t1]at e;injection e with e;rw[<-e,bX,bx,bH,cU,mN (z:=(acc++[t]).map some) (cs:=(zs++[xs]).map CV.sl) (by rw[TU];exact hE2) (by have:=Fg (acc:=acc) (t:=t);unfold lnS at this hln;omega) (.inl rfl),bV,iT,bx,bx,BQ,bx,hK];exact CR.good (v:=LV.cv (CV.sl _)) (h1.to hn2) rfl (dL.cv _) rfl
  ·rw[bX,bx,bI,cU];refine CR.take h1 hv bE (λhn2 t2=> ?_) (λt2=> ?_)
   ·rw[t2]at e;dsimp only at e;rw[bX,bx,cS,bI,bx,NW];obtain⟨res1,e3,e4⟩: ∃res1,gQ f (acc++[t]) (l.drop (m+1))=some res1/\(res.map λq=>(T.mk 2 0 s (q.1.map some),q.2))=res1.map λq=>(T.mk 2 0 s (q.1.map some),q.2):=by
     rcases fU e with⟨a1,a2⟩|⟨a,r,a1,a2⟩
     ·exact⟨none,a1,a2⟩
     ·injection a2 with a2;exact⟨some (a,r),a1,a2.symm⟩
    rw[e4];refine CR.up (m:=m+1) (c':=lnS (acc++[t])) ?_ (ct _) (by rw[Fg];omega);rw[kN,kN];have h2':=h.to (m:=m+1) hn2;exact ih.list h2' hv hl hE2 (by rw[Fg];omega) b7 hK e3
   ·rw[t2]at e;dsimp only at e;rw[ze t1]at e;injection e with e;rw[<-e,bX,bx,c8,bH,bx,BQ,bx,hK];exact CR.stop (v:=LV.cv (CV.sl [])) h1 rfl rfl
 ·simp only[dF,bx,dc,hgv,bX,cR,c8,bH];rw[hK];exact CR.stop (v:=LV.cv (CV.sl [])) (h.to hm) rfl rfl
def JB: ∀(f:Nat) (k:Nat) (r:List Tok),mA r=true->(∀res,cJ f k r=some res->res=none)/\(∀res,fv f k r=some res->res=none)/\(∀res,gR f r=some res->res=none)
 |0,k,r,h=>⟨λres e=>by simp[cJ]at e,λres e=>by simp[fv]at e,λres e=>by simp[gR]at e⟩|f+1,k,r,h=>by
  have ih:=λk=>JB f k r h;have ho:opR r=[58]\/opR r=[44]\/opR r=[41]:=by
   unfold mA at h;simp only[gO,dA]at h;rcases h with(h|h)|h
   ·exact .inl h
   ·exact .inr (.inl h)
   ·exact .inr (.inr h)
  have hn: ∀s:List UInt8,s≠[58]->s≠[44]->s≠[41]->cI s r=none:=λs h1 h2 h3=>by
   unfold cI;rw[bB];rcases ho with ho|ho|ho
   ·rw[ho];exact λe=>h1 e.symm
   ·rw[ho];exact λe=>h2 e.symm
   ·rw[ho];exact λe=>h3 e.symm
  have bind: ∀{α β:Type} {x:PR α} {k:α->List Tok->PR β} {res:Option (β×List Tok)},(∀res,x=some res->res=none)->cY x k=some res->res=none:=λhx e=>by
   rcases fU e with⟨_,h2⟩|⟨a,r,h1,_⟩
   ·exact h2
   ·have:=hx _ h1;cases this
  refine⟨λres e=> ?_,λres e=> ?_,λres e=> ?_⟩
  ·rw[cJ]at e;split at e
   ·exact(ih k).2.2 _ e
   split at e
   ·exact bind (ih k).2.2 e
   split at e
   ·rw[hn _ bE bE bE]at e;exact(ih _).1 _ e
   split at e
   ·exact bind (ih _).1 e
   ·exact bind (ih _).2.1 e
  ·rw[fv]at e;split at e
   ·rw[hn _ bE bE bE]at e;dsimp only at e;rw[hn _ bE bE bE]at e;exact(ih _).1 _ e
   ·exact(ih _).1 _ e
  ·rw[gR.eq_def]at e;dsimp only at e;split at e
   ·injection e with e;exact e.symm
   ·rename_i x r';have hx:x.kind=2/\x.text≠[40]:=by
     unfold opR at ho;dsimp only at ho;by_cases hk:x.kind=2
     ·rw[bC hk]at ho;refine⟨hk,λe=> ?_⟩;rw[e]at ho;simp at ho
     ·rw[bB hk]at ho;simp at ho
    rw[bB bu,bB bu,bB hx.2]at e;injection e with e;exact e.symm
def CO (c:CV)(o:Option T):Prop:= ∃ys,cj (LV.cv c)=some ys/\dL ys (opN o)/\dJ c=true
def CO.nil:CO (CV.v (.slice none 0 0)) none:=⟨[],rfl,dL.nil,rfl⟩
def CO.some {xs:List CV}{t:T}(h:dL xs (t.flat 0)):CO (CV.sl xs) (.some t):=⟨xs,rfl,h,rfl⟩
noncomputable def mw:St->Option Out:=kB (ev E) 141 jB [.block 0,.seq (cN 141 31)]
def M2 {xs:List CV}{b:Bool}{ν:Mu}:mw (jg xs b ν)=iX xs b ν:=Rb _ _ _ _
def M3 {j:Nat}(hj:1<=j){ca cb cc:CV}{a b c:Option T}(ha:CO ca a)(hb:CO cb b)(hc:CO cc c)(hl:lnA [a,b,c]<=100000){ν:Mu}:mw (vv 3 (j:Int) [ca,cb,cc] ν)=iX (cO ((T.mk 3 0 [] [a,b,c]).flat 0)) true ν:=by
 obtain⟨xa,a1,a2,a3⟩:=ha;obtain⟨xb,b1,b2,b3⟩:=hb;obtain⟨xc,c1,c2,c3⟩:=hc;have hs:(gg [ca,cb,cc]&&Nat.ble (3*1) (List.length [ca,cb,cc]))=true:=by simp only[gg,a3,b3,c3];rfl
 have hch:lY false 1 3 [ca,cb,cc]=[ca,cb,cc]:=rfl;have hE:EsR [ca,cb,cc] ([a,b,c].map opN):=((EsR.one a1 a2).snoc b1 b2).snoc c1 c2;unfold mw;rw[D2,cl bu,bI,hs,cK,hch,mN hE hl (.inr rfl),bV,iT,bx];rfl
def ak8 {c d e:CV}:cw E.P 24 (Ob.arr 1 [c,d,e]) (0+(0:Int).toNat*1)=some (LV.cv c):=by kernel_rfl
def g10 (h:Rdr μ lv i l n)(hv:VO l){j:Nat}{o0:List CV}:opt (opt (gD (ev E) lv i 3 (j:Int) o0 μ) (kR (ev E) jB [.block 1] [(4,0),(5,0)] (cN 141 120))) mw=
 if opR (l.drop n)=[58]/\j≠2 then opt (wE (ev E) lv i 3 ((IntKind.wrap .i64 ((j:Int)+1))) o0 (rS μ lv i l (n+1))) mw else mw (vv 3 (j:Int) o0 μ):=by
 by_cases ho:opR (l.drop n)=[58]
 ·by_cases hj:j=2
  ·have : gD (ev E) lv i 3 (j : Int) o0 μ = some (pB lv i 3 (j : Int) o0 μ) := ck (by
    rw[BP,j1 h hv bE,bV,bX,bx,co ho,cS,bI,co bu,bH])
   rw[this,bx,B0,bx,bB (λe=>e.2 hj)]
  ·have : gD (ev E) lv i 3 (j : Int) o0 μ = some (yf lv i 3 (IntKind.wrap .i64 ((j : Int) + 1)) o0 (rS μ lv i l (n + 1))) := ck (by
    rw[BP,j1 h hv bE,bV,bX,bx,co ho,cS,bI,cl bu,bI,Bp h.ob h.small]
    rfl)
   rw[this,bx,N8,bC ⟨ho,hj⟩]
 ·have : gD (ev E) lv i 3 (j : Int) o0 μ = some (pB lv i 3 (j : Int) o0 μ) := ck (by
   rw[BP,j1 h hv bE,bV,bX,bx,cl ho,c8,bH])
  rw[this,bx,B0,bx,bB (λe=>ho e.1)]
def zt (h:Rdr μ lv i l n)(hv:VO l){j:Nat}{o0:List CV}(he:mA (l.drop n)=true):opt ((CT lv i 3 (j:Int) o0).rK (ev E) μ) mw=
 if j=2\/(j=0/\opR (l.drop n)≠[58])then iX [] false μ else opt (opt (gD (ev E) lv i 3 (j:Int) o0 μ) (kR (ev E) jB [.block 1] [(4,0),(5,0)] (cN 141 120))) mw:=by
 have key: ∀ν:Mu,ν=μ->opt (bif decide ((j:Int)=2)then some (jg [] false ν)else bif decide ((j:Int)=0)then callK ((ev E).call 102 [LV.cv (CV.ref lv i 0),LV.str [58]] ν) (λv35 μ36=>opt (bO v35) λb39=>bif !b39 then some (jg [] false μ36)else opt (gD (ev E) lv i 3 (j:Int) o0 μ36) (kR (ev E) jB [.block 1] [(4,0),(5,0)] (cN 141 120))) (pX lB)else opt (gD (ev E) lv i 3 (j:Int) o0 ν) (kR (ev E) jB [.block 1] [(4,0),(5,0)] (cN 141 120))) mw=
  if j=2\/(j=0/\opR (l.drop n)≠[58])then iX [] false μ else opt (opt (gD (ev E) lv i 3 (j:Int) o0 μ) (kR (ev E) jB [.block 1] [(4,0),(5,0)] (cN 141 120))) mw:=λν hν=>by
  subst hν;by_cases j2:j=2
  ·rw[co bu,bH,bx,bC (.inl j2)];exact M2
  rw[cl bu,bI];by_cases j0:j=0
  ·rw[co bu,bH,j1 h hv bE,bV,bX,bx];by_cases ho:opR (l.drop n)=[58]
   ·rw[co ho,cS,bI,bB (by simp[j2,ho])]
   ·rw[cl ho,c8,bH,bx,bC (.inr ⟨j0,ho⟩)];exact M2
  ·rw[cl bu,bI,bB (by simp[j2,j0])]
 unfold mA at he;simp only[gO,dA]at he;rw[NH,j1 h hv bE,bV,bX,bx];by_cases h1:opR (l.drop n)=[58]
 ·rw[co h1,cS,bI];exact key μ rfl
 rw[cl h1,c8,bH,j1 h hv bE,bV,bX,bx];by_cases h2:opR (l.drop n)=[44]
 ·rw[co h2,cS,bI];exact key μ rfl
 rw [cl h2, c8, bH, j1 h hv bE, bV, bX, bx, co (by
  rcases he with(he|he)|he
  ·exact absurd he h1
  ·exact absurd he h2
  ·exact he),cS,bI]
 exact key μ rfl
def zu {g:Nat}(ihg:RAll g)(h:Rdr μ lv i l n)(hv:VO l)(hl:l.length<=1000){j c:Nat}{ca cb cc:CV}(hj:j<=2)(he:mA (l.drop n)=false){kk:T->List Tok->PR T}(hp:cY (cJ g 1 (l.drop n)) kk=some res)
 (hs: ∀t m xs,n<=m->m<=l.length->t.len+4*n<=4*m->dL xs (t.flat 0)->kk t (l.drop m)=some res->CR (rS μ lv i l m) lv i l m (c+4*(m-n)) res (opt (opt (gD (ev E) lv i 3 (j:Int) ([ca,cb,cc].set j (CV.sl xs)) (rS μ lv i l m)) (kR (ev E) jB [.block 1] [(4,0),(5,0)] (cN 141 120))) mw)):
 CR μ lv i l n c res (opt ((CT lv i 3 (j:Int) [ca,cb,cc]).rK (ev E) μ) mw):=by
 unfold mA at he;simp only[ot,gL]at he;rw[NH,j1 h hv bE,bV,bX,bx,cl he.1.1,c8,bH,j1 h hv bE,bV,bX,bx,cl he.1.2,c8,bH,j1 h hv bE,bV,bX,bx,cl he.2,c8,bH,cU];refine CR.seq h.le hp ((oB g).level _ _) (λr hr=>ihg.level (k:=1) h hv hl bu bu hr) (λt m v xs hX hnm hm hlen hgv hx e=> ?_) (λhr m v xs e hnm hm hgv hx ha hc=> ?_)
 ·simp only[dF,bx,dc,hgv,bX,cR,cS,bI];have hr:fo (j:Int) 3=true:=by unfold fo;simp;omega
  have hb:(fJ 1 (CV.sl xs)&&Nat.ble (0+(j:Int).toNat*1+1) (List.length [ca,cb,cc]))=true:=by rw[show fJ 1 (CV.sl xs)=true from rfl,ic];exact I4 b7
  have hset:dG [ca,cb,cc] (0+(j:Int).toNat*1) (CV.cells (CV.sl xs))=[ca,cb,cc].set j (CV.sl xs):=by show dG ([ca,cb,cc].set (0+(j:Int).toNat*1) (CV.sl xs)) (0+(j:Int).toNat*1+1) []=_;rw[dG,show 0+(j:Int).toNat*1=j by simp]
  rw[hr,cK,hb,cK,hset];exact hs t m xs hnm hm hlen hx e
 ·simp only[dF,bx,dc,hgv,bX,cR,c8,bH];exact CR.stop (v:=LV.cv (CV.sl [])) (h.to hm) rfl M2
def ahK {g:Nat}(ihg:RAll g){a b:Option T}{ca cb:CV}{c:Nat}(h:Rdr μ lv i l n)(hv:VO l)(hl:l.length<=1000)(ha:CO ca a)(hb:CO cb b)(hn:lnO a+lnO b<=4*n)
 (hp:cY (cJ g 1 (l.drop n)) (λt r=>d9 (.mk 3 0 [] [a,b,some t]) r)=some res):CR μ lv i l n c res (opt (wE (ev E) lv i 3 ((2:Nat):Int) [ca,cb,CV.v (.slice none 0 0)] μ) mw):=by
 refine CR.loopO ?_;cases he:mA (l.drop n)with
 |true=>
  have:res=none:=by
   rcases fU hp with⟨_,h2⟩|⟨t,r,h1,_⟩
   ·exact h2
   ·have:=(JB g 1 _ he).1 _ h1;cases this
  subst this;rw[zt h hv he,bC (.inl rfl)];exact CR.stop (v:=LV.cv (CV.sl [])) h rfl rfl
 |false=>
  refine zu ihg h hv hl bu he hp λt m xs hnm hm hlen hx e=> ?_;injection e with e;subst e;have e1: ∀a:Option T,lnA [a]<=1+lnO a:=λa=>by cases a<;>simp[lnA,lnO]
  have hsum:lnA [a,b,some t]<=100000:=by rw[show [a,b,some t]=[a]++([b]++[some t])from rfl,mi,mi];have:=e1 a;have:=e1 b;have:=e1 (some t);have:lnO (some t)=t.len:=rfl;omega
  rw[g10 (h.to hm) hv,bB (λe=>e.2 rfl)];exact CR.good (v:=LV.cv (CV.sl _)) (h.to hm) rfl (dL.cv _) (M3 bu ha hb (CO.some hx) hsum)
def Hf {g:Nat}{r:List Tok}{kk:Option T->List Tok->PR T}:cY (iH (g+1) r) kk=if mA r=true then kk none r else cY (cJ g 1 r) λt r=>kk (some t) r:=by
 rw[iH];split
 ·rfl
 ·rw[rh];rfl
def Sg {g:Nat}(ihg:RAll g){a b:Option T}{ca cb:CV}{c:Nat}(h:Rdr μ lv i l n)(hv:VO l)(hl:l.length<=1000)(ha:CO ca a)(hb:CO cb b)(hn:lnO a+lnO b<=4*n)
 (hp : (match cI [58] (l.drop n) with
  |some r=>cY (cJ g 1 r) λc r=>d9 (.mk 3 0 [] [a,b,some c]) r
  |none=>d9 (.mk 3 0 [] [a,b,none]) (l.drop n))=some res):
 CR μ lv i l n c res (opt (opt (gD (ev E) lv i 3 ((1:Nat):Int) [ca,cb,CV.v (.slice none 0 0)] μ) (kR (ev E) jB [.block 1] [(4,0),(5,0)] (cN 141 120))) mw):=by
 have e1: ∀a:Option T,lnA [a]<=1+lnO a:=λa=>by cases a<;>simp[lnA,lnO]
 rw[g10 h hv];cases t1:cI [58] (l.drop n)with
 |some r=>obtain⟨hn2,rfl⟩:=gU bE t1;rw[t1]at hp;rw[bC ⟨FF t1,bu⟩,show IntKind.wrap .i64 (((1:Nat):Int)+1)=((2:Nat):Int)from rfl];exact(ahK (c:=c+4) ihg (h.to hn2) hv hl ha hb bu hp).up bu bu
 |none=>
  rw[t1]at hp;injection hp with hp;subst hp;have ho:opR (l.drop n)≠[58]:=λe=>by unfold cI at t1;rw[bC e]at t1;cases t1
  have hsum:lnA [a,b,none]<=100000:=by rw[show [a,b,none]=[a]++([b]++[none])from rfl,mi,mi];have:=e1 a;have:=e1 b;have:=e1 none;have:lnO none=0:=rfl;have:=h.le;omega
  rw[bB (λe=>ho e.1)];exact CR.good (v:=LV.cv (CV.sl _)) h rfl (dL.cv _) (M3 bu ha hb CO.nil hsum)
def ahJ {g:Nat}(ihg:RAll g)(ihf:RAll (g+1)){a:Option T}{ca:CV}{c:Nat}(h:Rdr μ lv i l n)(hv:VO l)(hl:l.length<=1000)(ha:CO ca a)(hn:lnO a<=4*n)
 (hp : cY (iH (g + 1) (l.drop n)) (λb r => match cI [58] r with
  |some r=>cY (cJ (g+1) 1 r) λc r=>d9 (.mk 3 0 [] [a,b,some c]) r
  |none=>d9 (.mk 3 0 [] [a,b,none]) r)=some res):CR μ lv i l n c res (opt (wE (ev E) lv i 3 ((1:Nat):Int) [ca,CV.v (.slice none 0 0),CV.v (.slice none 0 0)] μ) mw):=by
 refine CR.loopO ?_;rw[Hf]at hp;cases he:mA (l.drop n)with|true=>rw[bC he]at hp;rw[zt h hv he,bB bu];exact Sg ihf h hv hl ha CO.nil (by have:lnO none=0:=rfl;omega) hp|false=>rw[bB (by rw[he];simp)]at hp;refine zu ihg h hv hl bu he hp λt m xs hnm hm hlen hx e=> ?_;exact Sg ihf (h.to hm) hv hl ha (CO.some hx) (by have:lnO (some t)=t.len:=rfl;omega) e
def Sf {g:Nat}(ihg:RAll g)(ihf:RAll (g+1)){a:Option T}{ca:CV}{c:Nat}(h:Rdr μ lv i l n)(hv:VO l)(hl:l.length<=1000)(ha:CO ca a)(hn:lnO a<=4*n)(hoe:a=none->opR (l.drop n)=[58])
 (hp : (match cI [58] (l.drop n) with
  |none=>(match a with|some t=>d9 t (l.drop n)|none=>failP)|some r=>cY (iH (g+1) r) λb r=>match cI [58] r with
   |some r=>cY (cJ (g+1) 1 r) λc r=>d9 (.mk 3 0 [] [a,b,some c]) r
   |none=>d9 (.mk 3 0 [] [a,b,none]) r)=some res):
 CR μ lv i l n c res (opt (opt (gD (ev E) lv i 3 ((0:Nat):Int) [ca,CV.v (.slice none 0 0),CV.v (.slice none 0 0)] μ) (kR (ev E) jB [.block 1] [(4,0),(5,0)] (cN 141 120))) mw):=by
 rw[g10 h hv];cases t1:cI [58] (l.drop n)with
 |some r=>obtain⟨hn2,rfl⟩:=gU bE t1;rw[t1]at hp;rw[bC ⟨FF t1,bu⟩,show IntKind.wrap .i64 (((0:Nat):Int)+1)=((1:Nat):Int)from rfl];exact(ahJ (c:=c+4) ihg ihf (h.to hn2) hv hl ha bu hp).up bu bu
 |none=>
  rw[t1]at hp;have ho:opR (l.drop n)≠[58]:=λe=>by unfold cI at t1;rw[bC e]at t1;cases t1
  rw[bB (λe=>ho e.1)];cases a with
  |none=>exact absurd (hoe rfl) ho|some t=>injection hp with hp;subst hp;obtain⟨ys,y1,y2,y3⟩:=ha;refine CR.good (v:=LV.cv (CV.sl ys)) h rfl y2 ?_;unfold mw;rw[D2,show decide (((0:Nat):Int)=0)=true from rfl,bH,show fo 0 3=true from rfl,cK,ak8,bx,y1,bx]
def aaT {g:Nat}(ihg:RAll g)(ihf:RAll (g+1))(h:Rdr μ lv i l n)(hv:VO l)(hl:l.length<=1000)(hp:kn (g+1+1) (l.drop n)=some res):CR μ lv i l n 0 res ((ev E).call 141 [LV.cv (CV.ref lv i 0)] μ):=by
 refine CR.ev ?_;rw[aiO];show CR μ lv i l n 0 res (opt (wE (ev E) lv i 3 ((0:Nat):Int) [CV.v (.slice none 0 0),CV.v (.slice none 0 0),CV.v (.slice none 0 0)] μ) mw);refine CR.loopO ?_;rw[kn,Hf]at hp;cases he:mA (l.drop n)with
 |true=>
  rw[bC he]at hp;rw[zt h hv he];by_cases ho:opR (l.drop n)=[58]
  ·rw[bB (by simp[ho])];exact Sf ihg ihf h hv hl CO.nil (by have:lnO none=0:=rfl;omega) (λ_=>ho) hp
  ·have t1:cI [58] (l.drop n)=none:=by unfold cI;rw[bB ho]
   rw[t1]at hp;injection hp with hp;subst hp;rw[bC (.inr ⟨rfl,ho⟩)];exact CR.stop (v:=LV.cv (CV.sl [])) h rfl rfl
 |false=>rw[bB (by rw[he];simp)]at hp;refine zu ihg h hv hl bu he hp λt m xs hnm hm hlen hx e=> ?_;exact Sf ihg ihf (h.to hm) hv hl (CO.some hx) (by have:lnO (some t)=t.len:=rfl;omega) (λe=>by cases e) e
def OQ: ∀f,∀g,g<=f->RAll g
 |0,g,hg=>by have:g=0:=bu;subst this;exact⟨λ_ _ _ _ _ hp=>(by simp[cJ]at hp),λ_ _ _ _ _ _ _ _ _ _ hp=>(by simp[gm]at hp),λ_ _ _ hp=>(by simp[gR]at hp),λ_ _ _ _ _ _ _ hp=>(by simp[gQ]at hp),λ_ _ _ hp=>(by simp[kn]at hp)⟩|f+1,g,hg=>by
  rcases fu g (f+1)with h|h
  ·exact OQ f g bu
  ·have:g=f+1:=bu;subst this;have ih:=OQ f f (ct _)
   exact ⟨RL ih λg hg => OQ f g bu, WQ ih, WR ih, WP ih, λhR hv hl hp => by
    cases f with
    |zero=>rw[kn]at hp;simp[iH,cY]at hp
    |succ f=>exact aaT (OQ (f+1) f bu) ih hR hv hl hp⟩
end
def agk:List Nd:=[⟨1,0,[65],[]⟩,⟨1,0,[66],[]⟩,⟨1,0,[67],[]⟩,⟨10,0,[],[1,2]⟩,⟨12,0,[],[0,3]⟩]
def ala:(evn (ovE zk) 200).call 22 [LV.cv (CV.sl (cO agk))] []=some (.ret (LV.ltup [LV.str ([91,65,43,91,66,42,67,93,93]:List UInt8),bv 0]) []):=bw
def exC:List Nd:=[⟨1,0,[65],[]⟩,⟨1,0,[66],[]⟩,⟨10,0,[],[0,1]⟩,⟨5,0,[],[2]⟩,⟨5,0,[],[3]⟩,⟨1,0,[67],[]⟩,⟨5,0,[],[5]⟩,⟨12,0,[],[4,6]⟩]
def exD:List Nd:=[⟨1,0,[65],[]⟩,⟨1,0,[66],[]⟩,⟨10,0,[],[0,1]⟩,⟨1,0,[67],[]⟩,⟨12,0,[],[2,3]⟩]
def ald:(evn (ovE zk) 200).call 13 [LV.str ([40,40,65,42,66,41,41,43,40,67,41]:List UInt8)] []=some (.ret (LV.ltup [LV.cv (CV.sl (cO exC)),bv 0]) []):=bw
def ale:(evn (ovE zk) 200).call 26 [LV.cv (CV.sl (cO exC))] []=some (.ret (LV.ltup [LV.cv (CV.sl (cO exD)),bv 0]) []):=bw
def alf:(evn (ovE zk) 200).call 16 [LV.cv (CV.sl (cO exD))] []=some (.ret (LV.ltup [LV.str ([65,42,66,43,67]:List UInt8),bv 0]) []):=bw
def exB:List Nd:=[⟨1,0,[73],[]⟩,⟨0,0,[50],[]⟩,⟨1,0,[78],[]⟩,⟨3,0,[],[1,2,-1]⟩,⟨2,0,[88],[0,3]⟩,⟨0,1,[49,46,53],[]⟩,⟨0,0,[50],[]⟩,⟨7,0,[],[6]⟩,⟨4,0,[],[5,7]⟩,⟨15,0,[],[4,8]⟩]
def tkB:List Tok:=[⟨0,0,[88]⟩,⟨2,0,[40]⟩,⟨0,0,[73]⟩,⟨2,0,[44]⟩,⟨1,0,[50]⟩,⟨2,0,[58]⟩,⟨0,0,[78]⟩,⟨2,0,[41]⟩,⟨2,0,[46,76,84,46]⟩,⟨2,0,[40]⟩,⟨1,1,[49,46,53]⟩,⟨2,0,[44]⟩,⟨2,0,[45]⟩,⟨1,0,[50]⟩,⟨2,0,[41]⟩]
def alb:(evn (ovE zk) 200).call 18 [LV.cv (CV.sl (tkB.map Tok.cv))] []=some (.ret (LV.ltup [LV.cv (CV.sl (cO exB)),bv 15,bv 0]) []):=bw
def alc:(evn (ovE zk) 200).call 16 [LV.cv (CV.sl (cO exB))] []=some (.ret (LV.ltup [LV.str ([88,40,73,44,50,58,78,41,46,76,84,46,40,49,46,53,44,45,50,41]:List UInt8),bv 0]) []):=bw
def exA:List Nd:=[⟨1,0,[65],[]⟩,⟨1,0,[66],[]⟩,⟨1,0,[67],[]⟩,⟨10,0,[],[1,2]⟩,⟨12,0,[],[0,3]⟩]
def ak9:(evn (ovE zk) 200).call 13 [LV.str ([97,32,43,32,98,42,99]:List UInt8)] []=some (.ret (LV.ltup [LV.cv (CV.sl (cO exA)),bv 0]) []):=bw
def ac2 {s:List UInt8}{l:List Tok}{e:List Nd}(hs:s.length<=200000)(h1:gS false s=l)(h2:(dn false s).e=0)(h3:(ev E).call 18 [LV.cv (CV.sl (l.map Tok.cv))] []=some (.ret (LV.ltup [LV.cv (CV.sl (cO e)),bv (l.length:Int),bv 0]) [])):
 (ev E).call 13 [LV.str s] []=some (.ret (LV.ltup [LV.cv (CV.sl (cO e)),bv 0]) []):=by
 refine bW ?_;have h51:=aib (μ:=[]) hs;have et:bS l=l.map Tok.cv:=rfl;rw[h1,h2,et]at h51;have hG7:adD (ev E) (l.map Tok.cv) (cO e) (l.length:Int) []=some (ye (cO e) 0 []):=by refine ck ?_;rw[afg,show decide ((l.length:Int)<((l.map Tok.cv).length:Int))=false by simp,bI]
 have hG:adC (ev E) (l.map Tok.cv) []=some (yd (cO e) 0 []):=by refine ck ?_;rw[aff,h3];simp only[bQ];rw[hG7];simp only[iB,cS,bI,bx];exact VS _ _ _ _
 rw[akx,h51];simp only[bQ];rw[hG];simp only[iB,cS,bI,bx];exact VQ _ _ _ _
def txB:List UInt8:=[120,40,105,44,50,58,110,41,32,46,108,116,46,32,40,49,46,53,44,45,50,41]
def ahG:gS false txB=tkB:=by decide+kernel
def afI:(dn false txB).e=0:=by decide+kernel
def ah5:(ev E).call 12 [] []=some (.ret (LV.bool true) []):=by refine bW ?_;have r1:=oI qT ak9;have r2:=oI qT ala;have r3:=ac2 (s:=txB) cf ahG afI (oI qT alb);have r4:=oI qT alc;have r5:=oI qT ald;have r6:=oI qT ale;have r7:=oI qT alf;have e2:agk=exA:=rfl;rw[e2]at r2;unfold txB at r3;rw[akw,r1];simp only[bQ];rw[r2];simp only[bQ];rw[r3];simp only[bQ];rw[r4];simp only[bQ];rw[r5];simp only[bQ];rw[r6];simp only[bQ];rw[r7];simp only[bQ];rfl
mutual
def nwT:T->Prop
 | .mk k _ _ x=>(k=2\/x.length<=7)/\nwA x
def nwA:List (Option T)->Prop
 |[]=>True|none::r=>nwA r|some t::r=>nwT t/\nwA r
end
def OD: ∀ts:List T,(∀a∈ts,nwT a)->nwA (ts.map some)
 |[],h=>by rw[iA,nwA];trivial|t::r,h=>by rw[dr,nwA];exact⟨h t bE,OD r λa ha=>h a (by simp[ha])⟩
def qN {o:Option T}{r:List (Option T)}(ho: ∀t,o=some t->nwT t)(hr:nwA r):nwA (o::r):=by
 cases o with|none=>rw[nwA];exact hr|some t=>rw[nwA];exact⟨ho t rfl,hr⟩
def C4:nwA []:=by rw[nwA];trivial
def aht:Clo nwT where
 leaf:=λk y s h=>by rw[nwT];exact⟨.inr bE,C4⟩
 call:=λs ts h=>by rw[nwT];exact⟨.inl rfl,OD ts h⟩
 range:=λa b c ha hb hc=>by rw[nwT];exact⟨.inr bE,qN ha (qN hb (qN hc C4))⟩
 un:=λk t h1 h2 h=>by unfold un;rw[nwT];exact⟨.inr bE,qN (λu e=>by injection e with e;subst e;exact h) C4⟩
 bin:=λk t u h1 h2 h h'=>by unfold bin;rw[nwT];exact⟨.inr bE,qN (λw e=>by injection e with e;subst e;exact h) (qN (λw e=>by injection e with e;subst e;exact h') C4)⟩
def rD (e:List Nd):Bool:=e.any λx=>decide (x.kind=2)&&decide (7<x.args.length)
def uQ: ∀(x:List (Option T)) (b:Nat),(dO b x).length=x.length
 |[],b=>by rw[dO];rfl|none::r,b=>by rw[dO,dz,uQ r];rfl|some t::r,b=>by rw[dO,dz,uQ r];rfl
mutual
def Ku: ∀(t:T) (b:Nat),nwT t->rD (t.flat b)=nR t
 | .mk k y s x,b,h=>by
  rw[nwT]at h;have hA:=zH x b h.2;unfold rD at hA |-;rw[T.flat,List.any_append,hA,nR,qp,List.any_nil,Bool.or_false];dsimp only;rw[uQ,Bool.or_comm];congr 1;rcases h.1 with h|h
  ·rw[co h,ic]
  ·rw[cl (show ¬7<x.length by omega),Jg]
def zH: ∀(x:List (Option T)) (b:Nat),nwA x->rD (fe b x)=oF x
 |[],b,h=>by rw[fe,oF];rfl|none::r,b,h=>by rw[nwA]at h;rw[fe,kG,oF];exact zH r _ h|some t::r,b,h=>by rw[nwA]at h;have h1:=Ku t b h.1;have h2:=zH r (b+gT (some t)) h.2;unfold rD at h1 h2 |-;rw[fe,kG,oF,List.any_append,h1,h2]
end
section
variable {μ:Mu}
def ZN {xs:List CV}{e:List Nd}(h:dL xs e)(hl:e.length<=1000000): ∀(m n:Nat),n+m=e.length->KK (ev E) xs (n:Int) μ=some (if rD (e.drop n)=true then EO true μ else EP μ)
 |0,n,hn=>cC (by rw[T8,h.1,cl bu,bI,dS bu];rfl)|m+1,n,hn=>by
  have ih:=ZN h hl m (n+1) bu;have hlt:n<e.length:=bu;obtain⟨c,hc,hr⟩:=h.2 n e[n] (dK hlt);refine cC ?_;rw[T8];simp only[eJ,hc,bx,sq hr];rw[h.1,co bu,bH,mh,dy bu,ih,dY hlt];have e2:rD (e[n]::e.drop (n+1))=((decide (e[n].kind=2)&&decide (7<e[n].args.length))||rD (e.drop (n+1))):=by unfold rD;rw[qp]
  rw[e2];by_cases hk:e[n].kind=2
  ·rw[co hk,bH,ic];by_cases ha:7<e[n].args.length
   ·rw[co bu,bH,co ha,Bool.true_or,bC rfl]
   ·rw[cl bu,bI,cl ha,qq]
  ·rw[cl hk,bI,ov,qq]
def aig {xs:List CV}{e:List Nd}(h:dL xs e)(hl:e.length<=1000000):(ev E).call 61 [LV.cv (CV.sl xs)] μ=some (.ret (LV.bool (rD e)) μ):=by
 refine bW ?_;have hL:=ZN (μ:=μ) h hl e.length 0 bu;have e0:((0:Nat):Int)=0:=rfl;rw[e0,d7]at hL;rw[akN,hL];cases hw:rD e with|true=>rw[bC rfl,bx,Wr]|false=>rw[bB bE,bx,Ws]
def TD: ∀(l:List Tok) (n:Nat),(mR n l).2=0-> ∀x∈l,oa x=0
 |[],n,h,x,hx=>by simp at hx|t::l,n,h,x,hx=>by
  rw[mR]at h;split at h
  ·rename_i h0;rcases ed.1 hx with rfl|hx
   ·exact h0
   ·exact TD l _ h x hx
  ·rename_i h0;exact absurd h h0
def ajI {l:List Tok}(h:(lQ l).2=0):VO l:=λx hx hk=>by
 unfold lQ at h;split at h
 ·cases h
 ·have:=TD l 0 h x hx;unfold oa at this;rw[bB bu,bC (.inr hk)]at this;split at this
  ·assumption
  ·cases this
def aeC {m:Nat}{c:CV}{x:Nd}(h:NdR c x):below m c=true:=by
 obtain⟨A,rfl,hA⟩:=h;have:below m A=true:=by
  cases A with
  |sl xs=>injection hA with hA;subst hA;exact yH _
  |v w=>rfl|_=>cases hA
 simp only[below,dp,this]
def Jw {m:Nat}: ∀{xs:List CV},(∀c∈xs,below m c=true)->dp m xs=true
 |[],h=>rfl|c::r,h=>by simp only[dp,h c bE];exact Jw λd hd=>h d (by simp[hd])
def abM {m:Nat}{xs:List CV}{e:List Nd}(h:dL xs e):dp m xs=true:=Jw λc hc=>by
 obtain⟨i,hi,rfl⟩:=List.getElem_of_mem hc;have hie:i<e.length:=by rw[<-h.1];exact hi
 obtain⟨d,hd,hr⟩:=h.2 i e[i] (dK hie);rw[dK hi]at hd;injection hd with hd;rw[hd];exact aeC hr
def adt {xs:List CV}{e:List Nd}(h:dL xs e){n c:Int}{o:List CV}{m:Int}:kB (ev E) 20 H20 [] (yn xs n c o m μ)=some (.ret (.ltup [LV.cv (CV.sl xs),bv n,bv c]) μ):=by
 rw[VX];have:fj (List.length μ) (LV.ltup [LV.cv (CV.sl xs),bv n,bv c])=true:=by show (dp _ xs&&_)=true;rw[abM h];rfl
 rw[this,cK]
def ah7 {l:List Tok}(hl:l.length<=1000)(hs: ∀t∈l,t.text.length<=200000): ∃v xs,cj v=some xs/\dL xs (iz l).1/\(ev E).call 20 [LV.cv (CV.sl (bS l))] μ=some (.ret (.ltup [v,bv (iz l).2.1,bv (iz l).2.2]) μ):=by
 have h59:=aif (μ:=μ) (l:=l) bu hs;by_cases hc:(lQ l).2=0
 case neg=>
  refine⟨LV.cv (CV.v (.slice none 0 0)),[],rfl,?_,bW ?_⟩
  ·unfold iz;rw[bC hc];exact dL.nil
  ·rw[ahl,h59];simp only[bQ];unfold iz;rw[bC hc,cl hc,c8,bH]
 have hv:=ajI hc
 have start : ∀ out, opt (KG (ev E) (bS l) μ) (kB (ev E) 20 H20 []) = some out -> (ev E).call 20 [LV.cv (CV.sl (bS l))] μ = some out := λout h => bW (by
  rw[ahl,h59];simp only[bQ]
  rw[co hc,cS,bI,h])
 by_cases hn:l=[]
 ·have e:iz l=([],0,17):=by unfold iz;rw[bB (by simpa using hc),bC hn]
  rw[e];refine⟨LV.cv (CV.sl []),[],rfl,dL.nil,start _ ?_⟩;have hG:KG (ev E) (bS l) μ=some (Ex [] 0 17 μ):=ck (by rw[TV,k8,co (by rw[hn];rfl),bH]);rw[hG,bx,VW]
 have hpos:0<l.length:=Di.2 hn;have hR:Rdr (μ++[[rO l 0]]) μ.length 0 l 0:=⟨db,ox _,bu,bE⟩;have hA:=(OQ (24*l.length+20) _ (ct _)).level (k:=1) hR hv hl bu bu (by rw[d7];exact zn l);have hrs: ∀n,rS (μ++[[rO l 0]]) μ.length 0 l n=μ++[[rO l n]]:=λn=>m0;have ho: ∀n:Nat,rO l n=Ob.cells [LV.cv (CV.sl (bS l)),bv (n:Int)]:=λ_=>rfl;have hB:μ++[[Ob.cells [LV.cv (CV.sl (bS l)),bv 0]]]=μ++[[rO l 0]]:=rfl;have e1:((1:Nat):Int)=1:=rfl
 have fin : ∀ (xs : List CV) (e : List Nd) (n c : Int) (o : List CV) (m : Int), dL xs e -> UD (ev E) (bS l) μ = some (yo xs n c o m μ) -> (ev E).call 20 [LV.cv (CV.sl (bS l))] μ = some (.ret (.ltup [LV.cv (CV.sl xs), bv n, bv c]) μ) := λxs e n c o m hx h => start _ (by
  have hG:KG (ev E) (bS l) μ=some (yn xs n c o m μ):=ck (by rw[TV,k8,cl bu,bI,h,bx,VY])
  rw[hG,bx,adt hx])
 have hrd:iz l=match oe l with
  |none=>([],0,7)|some (t,r)=>if 120<t.size\/nR t=true then([],0,8)else(t.flat 0,((l.length-r.length:Nat):Int),0):=by
  unfold iz;rw[bB (by simpa using hc),bB hn];rfl
 rw[hrd];unfold CR at hA;cases hp:oe l with
 |none=>rw[hp]at hA;obtain⟨m,v,xs,e,_,_,a3,a4,_,_,a7⟩:=hA;refine⟨LV.cv (CV.sl []),[],rfl,dL.nil,fin [] [] 0 7 (bS l) (m:Int) dL.nil (ck ?_)⟩;have h8: ∀xs,UE (ev E) xs false [rO l m] μ=some (uk [] 0 7 (bS l) (m:Int) μ):=λxs=>ck (by rw[ho,TX];rfl);rw[e1]at a7;rw[TW,hB,a7,hrs,bV,ey,bx];simp only[dF,bx,dc,a3,bX,cR];rw[h8,bx,G6]
 |some q=>
  obtain⟨t,r⟩:=q;rw[hp]at hA;obtain⟨m,v,xs,a1,a2,a3,a4,a5⟩:=hA;dsimp only at a1 a4;have hlen:=Cd hp;have hsz:=T.size_len t;have hnn:l.length-r.length=m:=by rw[a1,fY];omega
  have hnw:nwT t:=(ac8 aht _).level _ _ t r (by rw[zn,hp]);dsimp only;rw[hnn];have out: ∀(ys:List CV) (n c:Int),Xx (ev E) xs [rO l m] μ=some (vn ys n c (bS l) (m:Int) μ)->UD (ev E) (bS l) μ=some (yo ys n c (bS l) (m:Int) μ):=λys n c h=>by
   have h8 : UE (ev E) xs true [rO l m] μ = some (uk ys n c (bS l) (m : Int) μ) := ck (by
    rw[ho,TX,cS,bI,<-ho,h,bx,QN])
   refine ck ?_;rw[e1]at a5;rw[TW,hB,a5,hrs,bV,ey,bx];simp only[dF,bx,dc,a3,bX,cR];rw[h8,bx,G6]
  have h11t:FM (ev E) xs true [rO l m] μ=some (AK [] 0 8 (bS l) (m:Int) μ):=ck (by rw[ho,Ny,bH]);have hxl:xs.length=t.size:=by rw[a4.1,T.flat_len]
  by_cases hz:120<t.size
  ·rw[bC (.inl hz)];refine⟨LV.cv (CV.sl []),[],rfl,dL.nil,fin [] [] 0 8 _ _ dL.nil (out [] 0 8 (ck ?_))⟩;rw[ho,Fo,hxl,co bu,bH,<-ho,h11t,bx,DV]
  ·have h61:=aig (μ:=μ++[[rO l m]]) a4 (by rw[T.flat_len];omega);rw[Ku t 0 hnw]at h61;by_cases hw:nR t=true
   ·rw[bC (.inr hw)];refine⟨LV.cv (CV.sl []),[],rfl,dL.nil,fin [] [] 0 8 _ _ dL.nil (out [] 0 8 (ck ?_))⟩;rw[ho,Fo,hxl,cl bu,bI,<-ho,h61,bV,ey,bx,bX,bx,hw];dsimp only;rw[h11t,bx,DV]
   ·have hf:nR t=false:=by simpa using hw
    rw[bB (by simp[hz,hw])];refine⟨LV.cv (CV.sl xs),xs,rfl,a4,fin xs _ m 0 (bS l) m a4 (out xs m 0 (ck ?_))⟩;have h11:FM (ev E) xs false [rO l m] μ=some (AL xs (bS l) (m:Int) μ):=ck (by rw[ho,Ny,bI]);have h12:Xy (ev E) xs [rO l m] μ=some (AM xs (m:Int) 0 (bS l) (m:Int) μ):=ck (by rw[ho,acM]);rw[ho,Fo,hxl,cl bu,bI,<-ho,h61,bV,ey,bx,bX,bx,hf];dsimp only;rw[h11,bx,QO,<-ho,h12,bx,QP]
end
section
variable {μ:Mu}
def Na: ∀z:List Int,z.length<=1000000->(ev E).call 86 [LV.cv (CV.sl (dQ z)),LV.cv (CV.sl (dQ z))] μ=some (.ret (LV.bool false) μ)
 |[],h=>bW (by rw[ahn];rfl)|a::r,h=>by
  have hl:(dQ (a::r)).length=r.length+1:=by rw[mh];rfl
  have ih:=Na r (by simp at h;omega);have e0:cT (dQ (a::r)) (0:Int)=some (bF a):=rfl;have ec:gc (dQ (a::r)) (1:Int) ((dQ (a::r)).length:Int)=some (dQ r):=by unfold gc;rw[hl,co bu,co bu,co bu];show some ((dQ r).take _)=_;rw[IZ (by rw[mh];omega)]
  have es:pc 1 1 (dQ (a::r))=true:=C6 _
  have hG : adO (ev E) (dQ (a :: r)) (dQ (a :: r)) μ = some (uo false μ) := ck (by
   rw[afv,e0,bx,eo,bx,bx,eo,bx,cl bu,bI,bx,eo,bx,bx,eo,bx,co rfl,bH,es,cK,ec,bx,cK,bx,ih,bV,bX,bx])
  exact bW (by rw[ahn,hl,cl bu,bI,bI,hG,bx,Wg])
def agY {z : List Int} (h : z.length <= 1000000) : (ev E).call 52 [LV.cv (CV.sl (dQ z)), LV.cv (CV.sl (dQ z))] μ = some (.ret (LV.bool true) μ) := bW (by
 rw[akG,co rfl,bH,Na z h,bV,bX,bx,c8,bH,Na z h]
 rfl)
def TR {xs ys:List CV}{e:List Nd}(hx:dL xs e)(hy:dL ys e)(hl:e.length<=1000000)(ha: ∀x∈e,x.args.length<=1000000): ∀(m n:Nat),n+m=e.length->US (ev E) xs ys (n:Int) μ=some (EF μ)
 |0,n,hn=>cC (by rw[T3,hx.1,cl bu,bI])|m+1,n,hn=>by have ih:=TR hx hy hl ha m (n+1) bu;have hlt:n<e.length:=bu;obtain⟨c,hc,hr⟩:=hx.2 n e[n] (dK hlt);obtain⟨d,hd,hs⟩:=hy.2 n e[n] (dK hlt);refine cC ?_;rw[T3];simp only[eJ,hc,hd,bx,sq hr,sq hs];rw[hx.1,co bu,bH];simp only[iB,cS,bI];rw[agY (ha _ (md hlt)),bV,bX,bx,cS,bI,dy bu,ih]
def agI {xs ys:List CV}{e:List Nd}(hx:dL xs e)(hy:dL ys e)(hl:e.length<=1000000)(ha: ∀x∈e,x.args.length<=1000000):(ev E).call 15 [LV.cv (CV.sl xs),LV.cv (CV.sl ys)] μ=some (.ret (LV.bool true) μ):=by have hL:=TR (μ:=μ) hx hy hl ha e.length 0 bu;have e0:((0:Nat):Int)=0:=rfl;rw[e0]at hL;have hG:adE (ev E) xs ys μ=some (Ev true μ):=ck (by rw[afh,hL,bx,Wi]);exact bW (by rw[aky,hx.1,hy.1,co rfl,cS,bI,hG,bx,VU])
def agP {l : List Tok} (h : l.length <= 1000000) : (ev E).call 19 [LV.cv (CV.sl (bS l))] μ = some (.ret (LV.osl (bS l)) μ) := bW (by
 have h1:jw (bS l)=true:=by cases l<;>rfl
 have h2:eq 3 [] (bS l)=true:=mf (by rw[jM];simp;omega) rfl (ti l);rw[akz,h1,h2]
 rfl)
def WM {l:List Tok}(hl:l.length<=1000):(iz l).1.length<=1000000/\ ∀x∈(iz l).1,x.args.length<=1000000:=by
 unfold iz;split
 ·exact⟨bE,λx hx=>by simp at hx⟩
 split
 ·exact⟨bE,λx hx=>by simp at hx⟩
 split
 ·exact⟨bE,λx hx=>by simp at hx⟩
 ·rename_i t r hp;have hlen:=Cd hp;have hsz:=T.size_len t;split
  ·exact⟨bE,λx hx=>by simp at hx⟩
  ·exact⟨by rw[T.flat_len];omega,λx hx=>by have:=rX t 0 x hx;omega⟩
def ad7 {l:List Tok}(hl:l.length<=100000): ∀(m n:Nat),n+m=l.length->abw (ev E) (bS l) (n:Int) μ=some (if ∃t∈l.drop n,130<t.text.length then HZ true μ else H0 (bS l) μ)
 | 0, n, hn => cC (by
  rw[aao,jM,cl bu,bI,dS bu,bB bE])
 |m+1,n,hn=>by
  have hlt:n<l.length:=bu;have ih:=ad7 hl m (n+1) bu;refine cC ?_;rw[aao,jM,co bu,bH,Pd hlt,bx,m7,dy bu,ih,dY hlt];by_cases h:130<l[n].text.length
  ·rw[co bu,bH,bC ⟨l[n],ed.2 (.inl rfl),h⟩]
  ·rw[cl bu,bI];by_cases h2: ∃t∈l.drop (n+1),130<t.text.length
   ·obtain⟨t,ht,h3⟩:=h2;rw[bC ⟨t,ht,h3⟩,bC ⟨t,ed.2 (.inr ht),h3⟩]
   ·rw [bB h2, bB (λ⟨t, ht, h3⟩ => by
     rcases ed.1 ht with rfl|ht
     ·exact h h3
     ·exact h2 ⟨t,ht,h3⟩)]
end
def akt {l:List Tok}:(ev E).call 4 [LV.cv (CV.sl (bS l))] []=some (.ret (LV.bool true) []):=by
 refine bW ?_;have hG:af5 (ev E) (bS l) []=some (qw true []):=by
  refine ck ?_;have inner:l.length<=302->abv (ev E) (bS l) []=some (qx true []):=λhl=>by
   refine ck ?_;have hL:=ad7 (μ:=[]) (l:=l) bu l.length 0 bu;have e0:((0:Nat):Int)=0:=rfl;rw[e0,d7]at hL;rw[ahr,hL,bx];by_cases ht: ∃t∈l,130<t.text.length
   ·rw[bC ht,aar]
   ·have hs: ∀t∈l,t.text.length<=200000:=λt h=>by
     rcases fu 130 t.text.length with h2|h2
     ·exact absurd ⟨t,h,h2⟩ ht
     ·omega
    obtain⟨v,hv,h18⟩:=ah6 (μ:=[]) (l:=l) bu hs;obtain⟨w,xs,hw,hx,h20⟩:=ah7 (μ:=[]) (l:=l) bu hs;obtain⟨s1,s2⟩:=WM (l:=l) bu;rw[bB ht,aas,agP bu,bV,iT,bx,h18];simp only[bQ,hv];rw[h20];simp only[bQ,hw];simp only[iB,bH];rw[agI (dL.cv _) hx s1 s2];rfl
  rw[ahq,jM];have k0: ∀b,kS (ev E) H4 [] [(2,0)] (qx b [])=some (qw b []):=λb=>aaq _ _ _;by_cases h40:40<l.length
  ·rw[co bu,bH];by_cases h300:l.length<=300
   ·rw[co bu,bH]
   ·rw[cl bu,bI];by_cases h302:302<l.length
    ·rw[co bu,bH]
    ·rw[cl bu,bI,inner bu,bx,k0]
  ·rw[cl bu,bI,cl bu,bI,inner bu,bx,k0]
 rw[nf4,ah5];simp only[bQ];rw[hG,bx,aap]
set_option maxHeartbeats 1000000
open Go.RowKit
def sizeBuilder:(Tryz.prog.info? 130).map (·.size)=some 2:=bw
def liesBuilder:liesAt Tryz.prog Tryz.prog.depth 130 (2 / Tryz.prog.cellsOf 130) 0 130 1=true:=bw
def Yl (b:Nat)(w:World)(h0:w.cell? ⟨b,0,none⟩=some (.pointer (some ⟨b,0,none⟩))):
 Calls Tryz.prog 153 #[.pointer (some ⟨b,0,none⟩)] w λe w'=>e= .returned (.tuple #[])/\w'=w:=by
 obtain⟨j,hj,_⟩:=qn.1 sizeBuilder
 go_enter Tryz.func153,Tryz.ntmps153
 go_wp2
 rw[Lib.run_neq_ptr_same w _ Tryz.underlying127 hj]
 go_wp2
 go_end0
 exact⟨rfl,rfl⟩
def Vh (b:Nat)(w:World)(h0:w.cell? ⟨b,0,none⟩=some (.pointer none))(hsh:w.shape? b=some (130,2))(hfz:w.frozen? ⟨b,0,none⟩=false):
 Calls Tryz.prog 153 #[.pointer (some ⟨b,0,none⟩)] w λe w'=>e= .returned (.tuple #[])/\w'=w.setCell ⟨b,0,none⟩ (.pointer (some ⟨b,0,none⟩)):=by
 obtain⟨j,hj,hjs⟩:=qn.1 sizeBuilder
 go_enter Tryz.func153,Tryz.ntmps153
 go_wp2
 rw[Lib.run_to_unsafe w ⟨b,0,none⟩ Tryz.underlying127 Tryz.underlying195 hj (by rw[hjs];decide) hsh (Nat.zero_lt_succ 1)];simp only[Result.andThen];rw[Jd]
 go_wp2
 rw[run_callFunc_extern Tryz.func170 bw bw bw (e:=Extern.AbiNoEscape.same) bw];rw[Lib.run_noEscape];simp only[Result.andThen];rw[Jd]
 go_wp2
 rw[Lib.run_from_unsafe w ⟨b,0,none⟩ Tryz.underlying195 Tryz.underlying127 hj hsh liesBuilder];simp only[Result.andThen];rw[Jd]
 go_wp2
 go_end0
 exact⟨rfl,rfl⟩
def abj {b:Nat}{w:World}{p:Option Addr}{v:Value}(h0:w.cell? ⟨b,0,none⟩=some v)(hfz:w.frozen? ⟨b,0,none⟩=false):(storeVar 127 ⟨b,0,none⟩ (.pointer p)).run Tryz.prog w= .ok () (w.setCell ⟨b,0,none⟩ (.pointer p)):=by simp[storeVar,Tryz.sizeOf127,storeCells,Value.cells,run_store_pointer,stored,h0,hfz,Addr.add]
section
variable {W0 w:World}{G:Gh}{L:Nat}{μ:Mu}
def Rel.ret {args:List LV}{cargs:Array Value}{v:LV}{cv:Value}(R:Rel G L (cu args) μ cargs w)(hv:LVR G w L 0 v cv)(hno: ∀b,¬b6 v cv b):
 Rel G L (cu [v]) μ #[cv] w/\(∀b,bM G w (cu [v]) μ #[cv] b->bM G w (cu args) μ cargs b):=by
 have hob: ∀lev i,bT (μ++[(cu [v]).lam]) lev i=bT (μ++[(cu args).lam]) lev i:=λ_ _=>rfl;have hown: ∀q b,bK G w (cu [v]).fr #[cv] (μ++[(cu [v]).lam]) q b->bK G w (cu args).fr cargs (μ++[(cu args).lam]) q b:=by
  intro q b h;cases q with
  |fr t=>
   exfalso;simp only[bK,fh]at h;cases t with|zero=>exact hno b h|succ t=>simp[b6]at h
  |ob lev i k=>exact h
 refine⟨⟨R.lev,λt=> ?_,R.lam,R.mu,R.inj,λq q' b h h'=>R.own q q' b (hown q b h) (hown q' b h'),λq b lev i h h'=>R.apart q b lev i (hown q b h) h',R.nlt,R.nL,R.ngt⟩,λb h=> ?_⟩
 ·rw[fh];cases t with|zero=>exact hv|succ t=>simp[LVR,VR]
 ·rcases h with⟨q,h⟩|h
  ·exact .inl ⟨q,hown q b h⟩
  ·exact .inr h
structure Bld (G:Gh) (L:Nat) (μ:Mu) (w:World) (lev i:Nat) (a b:LV) (cur:Array Value) (fz:Nat×Nat):Prop where
 lt:lev<L
 live:ce μ lev i= .cells [a,b]
 heap:w.heap[G.β lev i]? =some (.cells cur 130 fz)
 size:cur.size=2
 unf:iQ cur fz
 O:G.O (G.β lev i)=0
 va:LVR (G.below lev) w lev 0 a (cur.getD 0 undef)
 vb:LVR (G.below lev) w lev 0 b (cur.getD 1 undef)
def Yd {args:List LV}{cargs:Array Value}{lev i:Nat}{a b:LV}(R:Rel G L (cu args) μ cargs w)(ha:args[0]? =some (.cv (.tref lev i 130 2)))(hob:ce μ lev i= .cells [a,b]):
 ∃cur fz,Bld G L μ w lev i a b cur fz/\i<G.n lev/\cargs.getD 0 undef= .pointer (some ⟨G.β lev i,0,none⟩):=by
 have h0:=R.fr 0;rw[fh,ha]at h0;simp only[ia,LVR,VR]at h0;obtain⟨h1,h2,cur,fz,h3,h4⟩:=h0;have hlt:lev<L:=by
  rcases sL lev L with h|h|h
  ·exact h
  ·subst h;have:=R.nL;simp[cu]at this;omega
  ·have:=R.ngt lev h;omega
 have hm:=R.mu lev i hlt;rw[hob]at hm;simp only[ObR]at hm;obtain⟨cur2,e2,fz2,k1,k2,k3,k4,k5⟩:=hm;rw[h3]at k1;obtain⟨rfl,rfl,rfl⟩:=(kV ..).mp (iM k1);exact⟨cur,fz,⟨hlt,hob,h3,h4,k2,k3,k5 0 a rfl,k5 1 b rfl⟩,h1,h2⟩
def LU {cargs:Array Value}{v:Value}(hs:cargs.size=1)(hv:cargs.getD 0 undef=v):cargs= #[v]:=by
 apply xM
 ·simpa using hs
 ·intro j h1 h2;have:j=0:=bu;subst this;rw[ex,xO h1]at hv;simpa using hv
def aax {lev i:Nat}{o:Ob}{args:List LV}(hlt:lev<μ.length)(h:ce μ lev i=o):bT (μ++[(cu args).lam]) lev i=o:=by rw[<-h];exact cV hlt
def ah2 {b:Nat}{cur:Array Value}{e:TypeId}{fz:Nat×Nat}{k:Nat}(h:w.heap[b]? =some (.cells cur e fz))(hk:k<cur.size):w.cell? ⟨b,k,none⟩=some (cur.getD k undef):=by unfold World.cell?;simp only[h];simp[ex,hk]
def aeS {b:Nat}{cur:Array Value}{e:TypeId}{fz:Nat×Nat}{k:Nat}(h:w.heap[b]? =some (.cells cur e fz))(hk:k<cur.size)(hu:iQ cur fz):w.frozen? ⟨b,k,none⟩=false:=by have:=hu k hk;unfold World.frozen?;simp only[h];simp;omega
def OF {args:List LV}{out:Out}(h:zl 130 args μ=some out):fT E.P W0 153 args μ out:=by
 unfold zl at h;obtain⟨q,hq,h2⟩:=cF h;clear h;obtain⟨u,hu,h⟩:=cF h2;clear h2;have hargs:args=[q.1]:=by rw[fg hq,jc hu]
 rw[hargs];clear hargs hq hu;obtain⟨x,y⟩:=q;simp only at h |-;split at h<;>try(cases h;done)
 rename_i lev i t n;obtain⟨hg,h2⟩:=jj h;clear h;rw[cE]at hg;have ht:=fb hg.1;have hn:=fb hg.2;subst ht hn;refine⟨gW Tryz.func153 rfl bw,λG w cargs hs R hkn=> ?_⟩;split at h2<;>try(cases h2;done)
 rename_i a b hob;obtain⟨cur,fz,B,hin,hc0⟩:=Yd R rfl hob;have hca:=LU (by simpa using hs) hc0;have hlt:lev<μ.length:=B.lt;have hcell:=ah2 (w:=w) B.heap (k:=0) (by rw[B.size];omega);split at h2<;>try(cases h2;done)
 ·
  injection h2 with h;subst h;have hva:=B.va;simp only[LVR,VR]at hva;rw[hva]at hcell;have hfr:=aeS (w:=w) B.heap (k:=0) (by rw[B.size];omega) B.unf;have hsh:w.shape? (G.β lev i)=some (130,2):=by unfold World.shape?;simp only[B.heap,B.size]
  have hset:cx μ lev i (.cells [.cv (.ref lev i 0),b])++[(cu [LV.cv (CV.tref lev i 130 2)]).lam]=cx (μ++[(cu [LV.cv (CV.tref lev i 130 2)]).lam]) lev i (.cells [.cv (.ref lev i 0),b]):=(m3 hlt).symm;obtain⟨w',hrun,R2,E2⟩:=R.writeOb (P:=Tryz.prog) (t:=127) (s1:=cu [LV.cv (CV.tref lev i 130 2)]) (μ1:=cx μ lev i (.cells [.cv (.ref lev i 0),b])) (lev:=lev) (i:=i) (off:=0) (v:= .cv (.ref lev i 0)) (cv:= .pointer (some ⟨G.β lev i,0,none⟩)) (o':= .cells [.cv (.ref lev i 0),b])
   (Ext.refl G w λb h=>h) (aax hlt hob) bw
   ⟨λe=>absurd e (Dv hlt),λ_=>by simp only[LVR,VR,Gh.below];exact⟨by simpa using hin,trivial⟩⟩
   (λb hb=>by simp[b6]at hb) rfl rfl rfl lG.1 hset
  have hw:w'=w.setCell ⟨G.β lev i,0,none⟩ (.pointer (some ⟨G.β lev i,0,none⟩)):=by have h1:=abj (p:=some ⟨G.β lev i,0,none⟩) hcell hfr;rw[hrun]at h1;injection h1
  rw[hca];refine(Vh (G.β lev i) w hcell hsh hfr).mono λe w2 ⟨h1,h2⟩=> ?_;subst h1;rw[<-hw]at h2;subst h2;obtain⟨R3,hT⟩:=R2.ret (v:= .ltup []) (cv:= .tuple #[]) ⟨#[],rfl,rfl⟩ (λb h=>by simp[b6]at h);exact⟨G.O,R3,hca▸E2.weaken (λ_ h=>h) λb hb=>hT b hb⟩
 ·
  rename_i l j;obtain⟨hg2,h3⟩:=jj h2;rw[cE]at hg2;have hl:=fb hg2.1;have hj:=fb hg2.2;subst hl hj;injection h3 with h;subst h;have hva:=B.va;simp only[LVR,VR]at hva;rw[hva.2]at hcell;rw[hca];refine(Yl (G.β l j) w hcell).mono λe w2 ⟨h1,h2⟩=> ?_;subst h1 h2;obtain⟨R3,hT⟩:=R.ret (v:= .ltup []) (cv:= .tuple #[]) ⟨#[],rfl,rfl⟩ (λb h=>by simp[b6]at h);exact⟨G.O,R3,Ext.refl G _ (hca▸hT)⟩
end
def RP {b g cap:Nat}{l:List UInt8}{p:Value}{fzb:Nat×Nat}{cur:Array Value}{w:World}(hbk:w.heap[b]? =some (.cells #[p,.slice (some ⟨g,0,none⟩) l.length cap] 130 fzb))(h0:l≠[])(hg:w.heap[g]? =some (.cells cur 5 (0,0)))
 (hnc:l.length<=cap) (hcm:cap<=maxLen) (hsz:l.length<=cur.size) (hcells: ∀(j:Nat) x,l[j]? =some x->w.cell? ⟨g,j,none⟩=some (.int .u8 x.toNat)):
 Calls Tryz.prog 89 #[.pointer (some ⟨b,0,none⟩)] w λe w'=>e= .returned (.string ⟨l.toArray⟩)/\w'=w.drew.freeze ⟨g,0,none⟩ l.length:=by
 have hl0:l.length≠0:=by simpa using h0
 have c1:w.drew.cell? ⟨b,1,none⟩=some (.slice (some ⟨g,0,none⟩) l.length cap):=by have:w.drew.heap[b]? =some (.cells #[p,.slice (some ⟨g,0,none⟩) l.length cap] 130 fzb):=hbk;rw[Lib.cell_of_heap this];rfl
 have hSD:(Builtin.unsafeSliceData_ #[128] 170 #[.slice (some ⟨g,0,none⟩) l.length cap]).run Tryz.prog w.drew= .ok (.pointer (some ⟨g,0,none⟩)) w.drew:=
  Lib.run_unsafeSliceData_row _ _ _ _ _ _ bu
 have hUS:(Builtin.unsafeString_ #[170,3] 9 #[.pointer (some ⟨g,0,none⟩),.int .i64 l.length]).run Tryz.prog w.drew= .ok (.string ⟨l.toArray⟩) (w.drew.freeze ⟨g,0,none⟩ l.length):=by
  refine Lib.run_unsafeString_row w.drew 170 3 9 5 Tryz.underlying170 Tryz.Builder_Extra_169.cellsByte g cur.size (by have hg':w.drew.heap[g]? =some (.cells cur 5 (0,0)):=hg;simp[World.shape?,hg']) l h0 bu (by unfold maxLen at hcm;omega) ?_;intro j x hx;have:=hcells j x hx;by_cases hj:j=0
  ·subst hj;simpa[Addr.add]using this
  ·simpa[Addr.add,hj]using this
 go_enter Tryz.func89,Tryz.ntmps89
 go_wp2
 go_region
 all_goals(go_wp2;go_ret;exact⟨rfl,rfl⟩)
def W1 {b:Nat}{p:Value}{fzb:Nat×Nat}{w:World}(hbk:w.heap[b]? =some (.cells #[p,.slice none 0 0] 130 fzb)):
 Calls Tryz.prog 89 #[.pointer (some ⟨b,0,none⟩)] w λe w'=>e= .returned (.string ⟨#[]⟩)/\w'=w.drew:=by
 have hUS: ∀W q,(Builtin.unsafeString_ #[170,3] 9 #[.pointer q,.int .i64 0]).run Tryz.prog W= .ok (.string .empty) W:=λW q=>Lib.run_unsafeString_none W _ _ _ q;have c1:w.drew.cell? ⟨b,1,none⟩=some (.slice none 0 0):=by have:w.drew.heap[b]? =some (.cells #[p,.slice none 0 0] 130 fzb):=hbk;rw[Lib.cell_of_heap this];rfl
 have hSD:(Builtin.unsafeSliceData_ #[128] 170 #[.slice none 0 0]).run Tryz.prog w.drew= .ok (.pointer none) w.drew:=rfl
 go_enter Tryz.func89,Tryz.ntmps89
 go_wp2
 go_region
 all_goals(go_wp2;go_ret;exact⟨rfl,rfl⟩)
def RQ {b g:Nat}{p:Value}{fzb:Nat×Nat}{cur:Array Value}{e:TypeId}{w:World}(hbk:w.heap[b]? =some (.cells #[p,.slice (some ⟨g,0,none⟩) 0 0] 130 fzb))(hg:w.heap[g]? =some (.cells cur e (0,0))):
 Calls Tryz.prog 89 #[.pointer (some ⟨b,0,none⟩)] w λe w'=>e= .returned (.string ⟨#[]⟩)/\w'=w.drew.alloc (.view ⟨g,0,none⟩ 5):=by
 have hUS: ∀W q,(Builtin.unsafeString_ #[170,3] 9 #[.pointer q,.int .i64 0]).run Tryz.prog W= .ok (.string .empty) W:=λW q=>Lib.run_unsafeString_none W _ _ _ q;have hlt:b<w.heap.size:=by
  rcases fu b w.heap.size with h'|h'
  ·exact h'
  ·simp[Uw h']at hbk
 have c1:w.drew.cell? ⟨b,1,none⟩=some (.slice (some ⟨g,0,none⟩) 0 0):=by have:w.drew.heap[b]? =some (.cells #[p,.slice (some ⟨g,0,none⟩) 0 0] 130 fzb):=hbk;rw[Lib.cell_of_heap this];rfl
 have hSD:(Builtin.unsafeSliceData_ #[128] 170 #[.slice (some ⟨g,0,none⟩) 0 0]).run Tryz.prog w.drew= .ok (.pointer (some ⟨w.drew.heap.size,0,none⟩)) (w.drew.alloc (.view ⟨g,0,none⟩ 5)):=
  Lib.run_unsafeSliceData_zero w.drew _ _ 5 Tryz.underlying170 ⟨g,0,none⟩ 0 (e,cur.size) (by have hg':w.drew.heap[g]? =some (.cells cur e (0,0)):=hg;simp[World.shape?,hg'])
 have c2:(w.drew.alloc (.view ⟨g,0,none⟩ 5)).cell? ⟨b,1,none⟩=some (.slice (some ⟨g,0,none⟩) 0 0):=by have:(w.drew.alloc (.view ⟨g,0,none⟩ 5)).heap[b]? =_:=(Lib.alloc_old w.drew _ b hlt).trans hbk;rw[Lib.cell_of_heap this];rfl
 have c3:(w.alloc (.view ⟨g,0,none⟩ 5)).drew.cell? ⟨b,1,none⟩=some (.slice (some ⟨g,0,none⟩) 0 0):=c2;have c0:w.cell? ⟨b,1,none⟩=some (.slice (some ⟨g,0,none⟩) 0 0):=c1
 go_enter Tryz.func89,Tryz.ntmps89
 go_wp2
 go_region
 all_goals(go_wp2;go_ret;exact⟨rfl,rfl⟩)
section
variable {W0 w:World}{G:Gh}{L:Nat}{μ:Mu}
def Ci {args:List LV}{cargs:Array Value}{μ':Mu}{G':Gh}{w':World}{T:Nat->Prop}{v:LV}{cv:Value}(R1:Rel G L (cu args) μ' cargs w)(hT1: ∀b,bM G w (cu args) μ' cargs b->T b)(hle:Le G w G' w')
 (hfr: ∀b,bM G w (cu args) μ' cargs b->w'.heap[b]? =w.heap[b]? /\G'.O b=G.O b) (hG:G'=G.withO G'.O) (ho:w'.os=w.os) (ht:w'.tape=w.tape) (hu:w'.output=w.output) (hs:w.heap.size<=w'.heap.size)
 (hkeep: ∀b,b<w.heap.size-> ¬T b->w'.heap[b]? =w.heap[b]? /\G'.O b=G.O b) (hv:LVR G' w' L 0 v cv) (hno: ∀b,¬b6 v cv b):km L T G w (.ret v μ') (.returned cv) w':=by
 have hβ: ∀lev i,G'.β lev i=G.β lev i/\G'.sz lev i=G.sz lev i:=by intro lev i;rw[hG];exact⟨rfl,rfl⟩
 have hn:G'.n=G.n:=by rw[hG];rfl
 obtain⟨R2,hO2⟩:=R1.frame hle hfr (λlev i _=>hβ lev i) hn;obtain⟨R3,hT3⟩:=R2.ret hv hno;have htouch: ∀b,bM G' w' (cu [v]) μ' #[cv] b->T b:=by
  intro b hb;rcases hT3 b hb with⟨q,h⟩|⟨lev,i,h,e⟩
  ·exact hT1 b (.inl ⟨q,hO2 q b h⟩)
  ·exact hT1 b (.inr ⟨lev,i,h,by rw[<-(hβ lev i).1];exact e⟩)
 refine⟨G'.O,?_,?_⟩
 ·rw[<-hG];exact R3
 ·rw[<-hG];exact⟨hle,ho,ht,hu,hs,hkeep,λb hb=> .inl (htouch b hb),λl _=>⟨λi=>hβ l i,by rw[hn]⟩⟩
def PN {g n:Nat}{cur:Array Value}{e:TypeId}{fz:Nat×Nat}(hg:w.heap[g]? =some (.cells cur e fz)):
 (∀b,b≠g->(w.drew.freeze ⟨g,0,none⟩ n).heap[b]? =w.heap[b]?)/\(∃fz',(w.drew.freeze ⟨g,0,none⟩ n).heap[g]? =some (.cells cur e fz'))/\(w.drew.freeze ⟨g,0,none⟩ n).os=w.os/\(w.drew.freeze ⟨g,0,none⟩ n).tape=w.tape/\(w.drew.freeze ⟨g,0,none⟩ n).output=w.output/\(w.drew.freeze ⟨g,0,none⟩ n).heap.size=w.heap.size:=by
 have hg':w.drew.heap[g]? =some (.cells cur e fz):=hg;unfold World.freeze;split
 ·exact⟨λb _=>rfl,⟨fz,hg'⟩,rfl,rfl,rfl,rfl⟩
 ·refine⟨λb hb=> ?_,?_,rfl,rfl,rfl,bE⟩
  ·simp only[Array.getElem?_modify];rw[bB (λe=>hb e.symm)];rfl
  ·simp only[Array.getElem?_modify,cQ,hg',gN];exact⟨_,rfl⟩
def uu (l:List UInt8):List CV:=l.map λ(b:UInt8)=>CV.v (.int .u8 (b.toNat:Int))
def Ye {l:List UInt8}:(uu l).length=l.length:=by simp[uu]
def zJ: ∀{xs:List CV} {s:List UInt8},dg xs=some s->xs=uu s
 |[],s,h=>by injection h with h;subst h;rfl
 |x::r,s,h=>by
  unfold dg at h;split at h
  ·rename_i heq;cases heq
  ·rename_i n r' heq;injection heq with e1 e2;subst e1 e2;split at h
   ·rename_i hd;obtain⟨l,hl,h2⟩:=cF h;injection h2 with h2;subst h2;have ih:=zJ hl;rw[ih];simp only[cE,dA]at hd;have hn:((UInt8.ofNat n.toNat).toNat:Int)=n:=by rw[IU (by show n.toNat<256;omega)];omega
    show _=CV.v (.int .u8 ((UInt8.ofNat n.toNat).toNat:Int))::uu l;rw[hn]
   ·cases h
  ·cases h
def aay {args:List LV}{out:Out}(h:II 130 args μ=some out):fT E.P W0 89 args μ out:=by
 unfold II at h;obtain⟨q,hq,h2⟩:=cF h;clear h;obtain⟨u,hu,h⟩:=cF h2;clear h2;have hargs:args=[q.1]:=by rw[fg hq,jc hu]
 rw[hargs];clear hargs hq hu;obtain⟨x,y⟩:=q;simp only at h |-;split at h<;>try(cases h;done)
 rename_i lev i t n;obtain⟨hg,h2⟩:=jj h;clear h;rw[cE]at hg;have ht:=fb hg.1;have hn:=fb hg.2;subst ht hn;refine⟨gW Tryz.func89 rfl bw,λG w cargs hs R hkn=> ?_⟩;split at h2<;>try(cases h2;done)
 rename_i a b hob;obtain⟨xs,hxs,h3⟩:=cF h2;obtain⟨s,hbs,h4⟩:=cF h3;injection h4 with h4;subst h4;obtain⟨cur,fz,B,hin,hc0⟩:=Yd R rfl hob;have hca:=LU (by simpa using hs) hc0;have hlt:lev<μ.length:=B.lt;have hot:=aax (args:=[LV.cv (CV.tref lev i 130 2)]) hlt hob;have hl:b8 (bT (μ++[(cu [LV.cv (CV.tref lev i 130 2)]).lam]) lev i):=by rw[hot];trivial
 obtain⟨R1,_,hT,hO1,hO2,hlv⟩:=R.setOb (s1:=cu [LV.cv (CV.tref lev i 130 2)]) (μ1:=cx μ lev i .dead) (o':= .dead) (cur':=cur) hl B.heap rfl rfl rfl rfl lG.1 (m3 hlt).symm
  (λG' w' _ _ _=>⟨λ_=>trivial,λ_=>trivial⟩) (λcs' k b h=>by cases h)
 rw[Dx w _ cur 130 fz B.heap]at R1 hT hO1 hO2;have hT1: ∀b,bM G w (cu [LV.cv (CV.tref lev i 130 2)]) (cx μ lev i .dead) cargs b->bM G w (cu [LV.cv (CV.tref lev i 130 2)]) μ cargs b:=by
  intro b hb;rcases hT b hb with h|⟨cs',k,h,_⟩
  ·exact h
  ·cases h
 obtain⟨hown,howns⟩:=nz hxs B.vb;have hp1: ∃p,w.heap[G.β lev i]? =some (.cells #[p,cur.getD 1 undef] 130 fz):=by
  refine⟨cur.getD 0 undef,?_⟩;rw[B.heap];congr 2;apply xM
  ·exact B.size
  ·intro j h1 h2;have hsz:=B.size;have:j=0\/j=1:=bu;rcases this with rfl|rfl
   ·simp[ex,hsz]
   ·simp[ex,hsz]
 obtain⟨p,hbk⟩:=hp1;rw[hca];rcases hown with⟨hx0,hv0⟩|⟨g,cap,cur2,e2,sz,hv,hg,h1,h2',h3',h4,h5,h6,h7,h8⟩
 ·
  subst hx0;have hs0:s=[]:=by injection hbs with h;exact h.symm
  subst hs0;rw[hv0]at hbk;refine(W1 hbk).mono λe w2 ⟨k1,k2⟩=> ?_;subst k1 k2;rw[<-hca];exact Ci R1 hT1 ⟨λ_ _ _ h hb=>⟨h,hb⟩,λ_ _ h=>⟨h,rfl,rfl⟩,λ_ _ _ h hc=>⟨h,hc⟩,λb cur e fz h=>⟨cur,fz,h,rfl⟩⟩ (λb _=>⟨rfl,rfl⟩) rfl rfl rfl rfl (ct _) (λb _ _=>⟨rfl,rfl⟩) rfl (λb h=>by simp[b6]at h)
 ·rw[hv]at hbk;have hob1:bK G w (cu [LV.cv (CV.tref lev i 130 2)]).fr cargs (μ++[(cu [LV.cv (CV.tref lev i 130 2)]).lam]) (.ob lev i 1) g:=by simp only[bK,hot];refine⟨cur,130,fz,B.heap,?_⟩;have:=howns g (by rw[hv];simp[b6]);exact this
  have hTg:bM G w (cu [LV.cv (CV.tref lev i 130 2)]) μ cargs g:= .inl ⟨_,hob1⟩;have hne: ∀b,bM G w (cu [LV.cv (CV.tref lev i 130 2)]) (cx μ lev i .dead) cargs b->b≠g:=by
   intro b hb e;subst e;rcases hb with⟨q,hb⟩|⟨l,j,hb,e⟩
   ·rcases hO1 q b hb with h|⟨cs',k,h,_⟩
    ·have hq:=R.own q (.ob lev i 1) b h hob1;subst hq;obtain⟨cs',h,_⟩:=hO2 1 b hb;cases h
    ·cases h
   ·exact R.apart (.ob lev i 1) b l j hob1 (hlv l j hb) e
  by_cases hx0:xs=[]
  ·subst hx0;have hs0:s=[]:=by injection hbs with h;exact h.symm
   subst hs0;have hcap:=h5 rfl;subst hcap;refine(RQ hbk hg).mono λe w2 ⟨k1,k2⟩=> ?_;subst k1 k2;rw[<-hca];have hle:=xU (G:=G) (w:=w.drew) (.view ⟨g,0,none⟩ 5) 0;have hle2:Le G w (G.setO w.drew.heap.size 0) (w.drew.alloc (.view ⟨g,0,none⟩ 5)):=⟨hle.map,hle.ref,hle.imm,hle.blk⟩;have hold: ∀b,b<w.heap.size->(w.drew.alloc (.view ⟨g,0,none⟩ 5)).heap[b]? =w.heap[b]? /\(G.setO w.drew.heap.size 0).O b=G.O b:=λb hb=>⟨jz w.drew _ hb,eh (Dv hb)⟩;exact Ci R1 hT1 hle2 (λb hb=>hold b (R1.touch_lt hb)) rfl rfl rfl rfl (by simp[World.alloc]) (λb hb _=>hold b hb) rfl (λb h=>by simp[b6]at h)
  ·have he:e2=5:=h8 (by rw[hbs];rfl) hx0;subst he;have hxs2:=zJ hbs;have hlen:xs.length=s.length:=by rw[hxs2,Ye]
   have hs0:s≠[]:=by intro h;rw[h]at hlen;exact hx0 (iK hlen)
   have hsz1:sz=1:=by
    cases xs with
    |nil=>exact absurd rfl hx0|cons c r=>
     have:=h4 c j7;have hc:c∈uu s:=by rw[<-hxs2];exact j7
     obtain⟨b,_,rfl⟩:=ph.1 hc;exact this.symm
   subst hsz1;obtain⟨olds,ho1,ho2⟩:=wt h6 h4;have hcells: ∀(j:Nat) x,s[j]? =some x->w.cell? ⟨g,j,none⟩=some (.int .u8 x.toNat):=by
    intro j x hx;have hflat:xs.flatMap CV.cells=uu s:=by rw[hxs2];exact yK s
    rw[hflat]at ho1;obtain⟨v,hv1,hv2⟩:=(gE ho1).2 j (CV.int .u8 (x.toNat:Int)) (by simp[uu,hx]);simp only[VR]at hv2;subst hv2;have:=(ho2 j _ hv1).1;simpa using this
   rw[hlen]at hbk h1;refine(RP hbk hs0 hg h1 h2' bu hcells).mono λe w2 ⟨k1,k2⟩=> ?_;subst k1 k2;rw[<-hca];obtain⟨f1,⟨fz',f2⟩,f3,f4,f5,f6⟩:=PN (n:=s.length) hg;have hle:Le G w G (w.drew.freeze ⟨g,0,none⟩ s.length):=by
    refine⟨λb es clk h hb=> ?_,λ_ _ h=>⟨h,rfl,rfl⟩,λb off v h hc=>⟨h,?_⟩,λb c e fz h=> ?_⟩
    ·have hb2:b≠g:=λe=>by subst e;rw[hg]at hb;cases hb
     exact⟨h,by rw[f1 b hb2];exact hb⟩
    ·rw[<-hc];unfold World.cell?;by_cases hb2:b=g
     ·subst hb2;simp only[f2,hg]
     ·simp only[f1 b hb2]
    ·by_cases hb2:b=g
     ·subst hb2;rw[hg]at h;obtain⟨rfl,rfl,rfl⟩:=(kV ..).mp (iM h);exact⟨_,fz',f2,rfl⟩
     ·exact⟨c,fz,by rw[f1 b hb2];exact h,rfl⟩
   exact Ci R1 hT1 hle (λb hb=>⟨f1 b (hne b hb),rfl⟩) rfl f3 f4 f5 (by rw[f6];exact ct _) (λb _ hn=>⟨f1 b (λe=>hn (e▸hTg)),rfl⟩) rfl (λb h=>by simp[b6]at h)
def ahi:E.P.follows .mixedOrders=true:=bw
end
end Go.Abs
namespace Go.Proofs
open Go.RowKit Go.Shelf
attribute [local go_sem] Oper.semAt_some
def Tog.upto {α:Type}(f:Nat->α)(k:Nat):List α:=(List.range k).map f
def Tog.upto_succ {α:Type}(f:Nat->α)(k:Nat):Tog.upto f (k+1)=Tog.upto f k++[f k]:=by simp[Tog.upto,List.range_succ]
def Tog.upto_length {α:Type}(f:Nat->α)(k:Nat):(Tog.upto f k).length=k:=by simp[Tog.upto]
def Tog.bk (zs:List Int)(k:Nat):Int×Int:=((zs.length:Int) -1-k,(zs[zs.length-1-k]?).getD 0)
def Tog.Kp (n₀ Bs:Nat)(W W':World):Prop:=Below n₀ W W'/\W'.cell? ⟨Bs,0,none⟩=W.cell? ⟨Bs,0,none⟩
def Tog.Kp.refl (n₀ Bs:Nat)(W:World):Tog.Kp n₀ Bs W W:=⟨Below.refl _ _,rfl⟩
def Tog.Kp.trans {n₀ Bs:Nat}{A B C:World}(h:Tog.Kp n₀ Bs A B)(k:Tog.Kp n₀ Bs B C):Tog.Kp n₀ Bs A C:=⟨h.1.trans k.1,k.2.trans h.2⟩
def Tog.Kp.put {n₀ Bs:Nat}{w:World}(hn:n₀<=w.heap.size)(hB:Bs<w.heap.size)(W:World)(l:Nat)(o o':Obj)(hl:w.heap.size<=l)(h:W.heap[l]? =some o)(h1:o.isCells=false)(h2:o.isWalk=false):Tog.Kp n₀ Bs W (W.putObj l o'):=by refine⟨belowK_b hn W l o o' hl h h1 h2,?_⟩;unfold World.cell?;rw[World.putObj_heap_other (by show Bs≠l;omega)]
set_option maxRecDepth 100000 in
set_option maxHeartbeats 4000000 in
def Tog.back1_in (F:Fence)(n:Nat)(h7:F.fn 166)(hro:F.round=none)(hn:1<=n)(l Bs n₀ b off cap:Nat)(zs:List Int)(hreach:zs.length*8<=140737488351232)(hb:b<n₀)(J Jx:List (Int×Int)->World->Prop)
 (hY : ∀ pre x W, J pre W -> pre.length < zs.length -> YieldAt F (n - 1) Tryz.prog l #[.int .i64 x.1, .int .i64 x.2] W λe W' =>
  (e= .returned (.bool true)/\J (pre++[x]) W'/\Tog.Kp n₀ Bs W W')\/(e= .returned (.bool false)/\Jx (pre++[x]) W'))
 (W:World) (hBs:W.cell? ⟨Bs,0,none⟩=some (.slice (some ⟨b,off,none⟩) zs.length cap)) (hc: ∀j,j<zs.length->W.cell? ⟨b,off+j,none⟩=some (.int .i64 (zs[j]?.getD 0))) (h0:J [] W):
 CallsIn F n Tryz.prog 166 #[.func (.yield l) #[] #[],.pointer (some ⟨Bs,0,none⟩)] W λe W'=>(∃v,e= .returned v)/\
  ((∃ys,ys=Tog.upto (Tog.bk zs) zs.length/\J ys W')\/(∃pre,(∃k,k<=zs.length/\pre=Tog.upto (Tog.bk zs) k)/\Jx pre W')):=by
 refine callsIn_of_wp Tryz.func166 rfl h7 ?_ hro;simp only[Tryz.ntmps166,List.size_toArray,List.length_cons,List.length_nil,Nat.reduceAdd,Nat.reduceSub,Array.replicate_succ,Array.replicate_zero,List.push_toArray,List.append_toArray,List.nil_append,List.cons_append]
 gi_wp2
 gi_loopw [3] (λi wr=> ∃k:Nat,k<=zs.length/\i= .int .i64 ((zs.length:Int) -1-k)/\J (Tog.upto (Tog.bk zs) k) wr/\Tog.Kp n₀ Bs W wr)
  (λi _=>(intOf i+1).toNat)
 case atStart=>exact⟨0,Nat.zero_le _,by simp,h0,Tog.Kp.refl _ _ _⟩
 case round=>
  obtain⟨k,hk,rfl,hJs,hnx⟩:=hrel;have hbx:=hnx.2.trans hBs;have hcx: ∀j,j<zs.length->wr.cell? ⟨b,off+j,none⟩=some (.int .i64 (zs[j]?.getD 0)):=λj h=>(hnx.1.cell (p:=⟨b,off+j,none⟩) hb).trans (hc j h);by_cases hlt:k<zs.length
  ·obtain⟨m,hm1,hm2⟩: ∃m:Nat,m+k+1<=zs.length/\zs.length<=m+k+1:=⟨zs.length-1-k,by omega,by omega⟩;have hmz:m<zs.length:=by omega
   have e1:((zs.length:Int) -1-k)=(m:Int):=by omega
   have e2:Tog.bk zs k=((m:Int),(zs[m]?).getD 0):=by unfold Tog.bk;rw[e1,show zs.length-1-k=m by omega]
   rw[e1];clear e1;obtain⟨fn,tmps,assign,body,hy,hR⟩:=hY _ (Tog.bk zs k) wr hJs (by rw[Tog.upto_length];exact hlt);rw[e2]at hy;clear e2;have hcx':=hcx m hmz;obtain⟨y,hyv⟩: ∃y,y=(zs[m]?).getD 0:=⟨_,rfl⟩;rw[<-hyv]at hy hcx';clear hyv hcx;dsimp only at hy
   gi_wp2
   refine hR.mono ?_;rintro e W3 (⟨rfl,hJ3,hk3⟩|⟨rfl,hJx3⟩)
   ·gi_wp2
    go_roundw
    case rel=>exact⟨k+1,by omega,by congr 1;omega,by rw[Tog.upto_succ];exact hJ3,hnx.trans hk3⟩
    case measure=>first|(simp[intOf];done)|(simp[intOf];omega)
   ·gi_wp2
    refine bodyPost_ret (results_none rfl _ _ _) rfl ?_;exact⟨⟨_,rfl⟩,.inr ⟨_,⟨k+1,by omega,(Tog.upto_succ _ _).symm⟩,hJx3⟩⟩
  ·obtain rfl:k=zs.length:=by omega
   have e1:((zs.length:Int) -1-(zs.length:Nat))= -1:=by omega
   rw[e1]
   gi_wp2
   go_end0
   exact⟨⟨_,rfl⟩,.inl ⟨_,rfl,hJs⟩⟩
set_option maxRecDepth 100000 in
set_option maxHeartbeats 1000000 in
def Tog.back1_nil_in (F:Fence)(n:Nat)(h8:F.fn 166)(hro:F.round=none)(l Bs:Nat)(a:Option Addr)(cap:Nat)(J:List (Int×Int)->World->Prop)(W:World)(hBs:W.cell? ⟨Bs,0,none⟩=some (.slice a 0 cap))(h0:J [] W):
 CallsIn F n Tryz.prog 166 #[.func (.yield l) #[] #[],.pointer (some ⟨Bs,0,none⟩)] W λe W'=>(∃v,e= .returned v)/\J [] W':=by
 refine callsIn_of_wp Tryz.func166 rfl h8 ?_ hro;simp only[Tryz.ntmps166,List.size_toArray,List.length_cons,List.length_nil,Nat.reduceAdd,Nat.reduceSub,Array.replicate_succ,Array.replicate_zero,List.push_toArray,List.append_toArray,List.nil_append,List.cons_append]
 gi_wp2
 gi_loopw [3] (λi wr=>i= .int .i64 (-1)/\J [] wr) (λ_ _=>0)
 case atStart=>exact⟨rfl,h0⟩
 case round=>
  obtain⟨rfl,hJs⟩:=hrel
  gi_wp2
  go_end0
  exact⟨⟨_,rfl⟩,hJs⟩
set_option maxHeartbeats 1000000 in
def Tog.back_in (F:Fence)(n:Nat)(h6:F.fn 150)(hro:F.round=none)(a:Option Addr)(len cap:Nat)(w:World):
 CallsIn F n Tryz.prog 150 #[.slice a len cap] w λe w'=>e= .returned (.func (.func 166) #[] #[.pointer (some ⟨w.heap.size,0,none⟩)])/\w'=w.alloc (.cells #[.slice a len cap] 55):=by
 refine callsIn_of_wp Tryz.func150 rfl h6 ?_ hro;simp only[Tryz.ntmps150,List.size_toArray,List.length_cons,List.length_nil,Nat.reduceAdd,Nat.reduceSub,Array.replicate_succ,Array.replicate_zero,List.push_toArray,List.append_toArray,List.nil_append,List.cons_append]
 gi_wp2
 go_ret
 exact⟨rfl,rfl⟩
def Tog.Ints (n₀:Nat)(W:World)(sv:Value)(zs:List Int):Prop:=
 ((∃a cap,sv= .slice a 0 cap)/\zs=[])\/ ∃b off cap,sv= .slice (some ⟨b,off,none⟩) zs.length cap/\b<n₀/\ ∀j,j<zs.length->W.cell? ⟨b,off+j,none⟩=some (.int .i64 (zs[j]?.getD 0))
def Tog.Ints.below {n₀:Nat}{A B:World}(h:Below n₀ A B){sv:Value}{zs:List Int}:Tog.Ints n₀ A sv zs->Tog.Ints n₀ B sv zs
 | .inl e=> .inl e| .inr ⟨b,off,cap,e,hb,hc⟩=> .inr ⟨b,off,cap,e,hb,λj hj=>(h.cell (p:=⟨b,off+j,none⟩) hb).trans (hc j hj)⟩
def Tog.back_stops (F:Fence)(n:Nat)(h8:F.fn 166)(hro:F.round=none)(hn:1<=n)(Bs n₀:Nat)(sv:Value)(zs:List Int)(hreach:zs.length*8<=140737488351232)(w:World)(hBs:Bs<w.heap.size)(hn₀:n₀<=w.heap.size)
 (hc:w.cell? ⟨Bs,0,none⟩=some sv) (hI:Tog.Ints n₀ w sv zs):
 SeqStopsK F n Tryz.prog 166 #[.pointer (some ⟨Bs,0,none⟩)] (λx:Int×Int=> #[Value.int .i64 x.1,Value.int .i64 x.2]) (Tog.Kp n₀ Bs) (λys=>ys=Tog.upto (Tog.bk zs) zs.length)
  (λpre=> ∃k,k<=zs.length/\pre=Tog.upto (Tog.bk zs) k) zs.length w:=λl J Jx W hW _ _ hY h0=>by
 have hc':=(hW.cell (p:=⟨Bs,0,none⟩) hBs).trans hc;rcases hI.below (hW.mono hn₀)with⟨⟨a,cap,rfl⟩,rfl⟩|⟨b,off,cap,rfl,hb,hcs⟩
 ·exact(Tog.back1_nil_in F n h8 hro l Bs a cap J W hc' h0).mono λe W' ⟨he,hj⟩=>⟨he,.inl ⟨_,rfl,hj⟩⟩
 ·exact Tog.back1_in F n h8 hro hn l Bs n₀ b off cap zs hreach hb J Jx hY W hc' hcs h0
def Tog.st_snoc (f l:List Int)(a nx:Int):Go.Abs.togSt f (l++[a]) nx=(Go.Abs.togSt f l nx).bind λx=>Go.Abs.togStep f x a:=by simp[Go.Abs.togSt,List.foldlM_append]
def Tog.st_none (f l r:List Int)(nx:Int)(h:Go.Abs.togSt f l nx=none):Go.Abs.togSt f (l++r) nx=none:=by simp only[Go.Abs.togSt,List.foldlM_append]at h |-;rw[h];rfl
def Tog.upto_rev (zs:List Int):(Tog.upto (Tog.bk zs) zs.length).map Prod.snd=zs.reverse:=by
 apply List.ext_getElem
 ·simp[Tog.upto]
 ·intro i h1 h2;have hi:i<zs.length:=by simpa[Tog.upto]using h1
  have h3:zs.length-1-i<zs.length:=by omega
  simp[Tog.upto,Tog.bk,h3]
def Tog.upto_pre (zs:List Int){k:Nat}(hk:k<=zs.length): ∃r,zs.reverse=(Tog.upto (Tog.bk zs) k).map Prod.snd++r:=by
 refine⟨zs.reverse.drop k,?_⟩;rw[<-Tog.upto_rev];have:(Tog.upto (Tog.bk zs) k)=(Tog.upto (Tog.bk zs) zs.length).take k:=by simp only[Tog.upto,<-List.map_take,List.take_range,Nat.min_eq_left hk]
 rw[this,List.map_take,List.take_append_drop]
def Tog.ok (f:List Int):Prop:= ∀v∈f,0<=v/\v<=f.length
def Tog.step_ok {f:List Int}(hf:Tog.ok f){nx a v:Int}(h0:0<=nx)(h1:nx<=f.length)(h:Go.Abs.togStep f nx a=some v):0<=v/\v<=f.length:=by
 unfold Go.Abs.togStep at h;split at h
 ·injection h with h;omega
 ·split at h
  ·rename_i h2 h3;injection h with h;have hlt:a.toNat<f.length:=by omega
   rw[List.getElem?_eq_getElem hlt]at h;have:=hf _ (List.getElem_mem hlt);simp only[Option.getD_some]at h;omega
  ·cases h
def Tog.far (w:World)(p a:Addr)(v:Value)(h:p.block≠a.block):(w.setCell p v).cell? a=w.cell? a:=World.cell?_setCell_other w p a v (λe=>h (by rw[e]))
structure Tog.Inv (w:World) (sv:Value) (nx r0:Int) (r1:Bool) (W:World):Prop where
 b:Below w.heap.size w W
 c0:W.cell? ⟨w.heap.size,0,none⟩=some sv
 c1:W.cell? ⟨w.heap.size+1,0,none⟩=some (.int .i64 r0)
 f1:W.frozen? ⟨w.heap.size+1,0,none⟩=false
 c2:W.cell? ⟨w.heap.size+1+1,0,none⟩=some (.bool r1)
 f2:W.frozen? ⟨w.heap.size+1+1,0,none⟩=false
 c3:W.cell? ⟨w.heap.size+1+1+1,0,none⟩=some (.int .i64 nx)
 f3:W.frozen? ⟨w.heap.size+1+1+1,0,none⟩=false
def Tog.Inv.grow {w W W':World}{sv:Value}{nx r0:Int}{r1:Bool}{row:Option Nat}(h:Tog.Inv w sv nx r0 r1 W)(hg:W.grownBy W' row)(hr: ∀r,row=some r->w.heap.size<=r/\ ∃o:Obj,W.heap[r]? =some o/\o.isCells=false):Tog.Inv w sv nx r0 r1 W':=by have hr2: ∀r,row=some r-> ∃o:Obj,W.heap[r]? =some o/\o.isCells=false:=λr e=>(hr r e).2;exact⟨h.b.grown hg h.b.size (λk e=>(hr k e).1),cell_kept h.c0 hg hr2,cell_kept h.c1 hg hr2,(frozen_kept h.c1 hg hr2).trans h.f1,cell_kept h.c2 hg hr2,(frozen_kept h.c2 hg hr2).trans h.f2,cell_kept h.c3 hg hr2,(frozen_kept h.c3 hg hr2).trans h.f3⟩
def Tog.Inv.next {w W:World}{sv:Value}{nx r0:Int}{r1:Bool}(h:Tog.Inv w sv nx r0 r1 W)(v:Int):Tog.Inv w sv v r0 r1 (W.setCell ⟨w.heap.size+1+1+1,0,none⟩ (.int .i64 v)):=by
 refine⟨h.b.setCell (by show _<=w.heap.size+1+1+1;omega) _,?_,?_,?_,?_,?_,?_,?_⟩
 ·rw[Tog.far _ _ _ _ (by first|(simp;done)|(simp;omega))];exact h.c0
 ·rw[Tog.far _ _ _ _ (by first|(simp;done)|(simp;omega))];exact h.c1
 ·rw[World.frozen?_setCell];exact h.f1
 ·rw[Tog.far _ _ _ _ (by first|(simp;done)|(simp;omega))];exact h.c2
 ·rw[World.frozen?_setCell];exact h.f2
 ·exact World.cell?_setCell_same' _ _ _ (by rw[h.c3];rfl)
 ·rw[World.frozen?_setCell];exact h.f3
def Tog.Inv.res {w W:World}{sv:Value}{nx r0:Int}{r1:Bool}(h:Tog.Inv w sv nx r0 r1 W)(v:Int)(c:Bool):
 Tog.Inv w sv nx v c ((W.setCell ⟨w.heap.size+1,0,none⟩ (.int .i64 v)).setCell ⟨w.heap.size+1+1,0,none⟩ (.bool c)):=by
 refine⟨(h.b.setCell (by show _<=w.heap.size+1;omega) _).setCell (by show _<=w.heap.size+1+1;omega) _,?_,?_,?_,?_,?_,?_,?_⟩
 ·rw[Tog.far _ _ _ _ (by first|(simp;done)|(simp;omega)),Tog.far _ _ _ _ (by first|(simp;done)|(simp;omega))];exact h.c0
 ·rw[Tog.far _ _ _ _ (by first|(simp;done)|(simp;omega))];exact World.cell?_setCell_same' _ _ _ (by rw[h.c1];rfl)
 ·rw[World.frozen?_setCell,World.frozen?_setCell];exact h.f1
 ·exact World.cell?_setCell_same' _ _ _ (by rw[Tog.far _ _ _ _ (by first|(simp;done)|(simp;omega)),h.c2];rfl)
 ·rw[World.frozen?_setCell,World.frozen?_setCell];exact h.f2
 ·rw[Tog.far _ _ _ _ (by first|(simp;done)|(simp;omega)),Tog.far _ _ _ _ (by first|(simp;done)|(simp;omega))];exact h.c3
 ·rw[World.frozen?_setCell,World.frozen?_setCell];exact h.f3
set_option maxRecDepth 100000 in
set_option maxHeartbeats 4000000 in
def Tog.body_in (F:Fence)(l n b off cap len cap2 len2:Nat)(a2:Option Addr)(m:Nat)(y nx0 x1:Int)(B:Nat)(w W:World)(Q:Exit->Act->World->Prop)(hm:m<len)(hr:len*8<=140737488351232)
 (c0:W.cell? ⟨B,0,none⟩=some (.slice (some ⟨b,off,none⟩) len cap)) (c3:W.cell? ⟨B+1+1+1,0,none⟩=some (.int .i64 ((m:Int)+1))) (f3:W.frozen? ⟨B+1+1+1,0,none⟩=false)
 (hcm:W.cell? ⟨b,off+m,none⟩=some (.int .i64 y)) (hn: ∀a,Q .normal a (W.setCell ⟨B+1+1+1,0,none⟩ (.int .i64 y))):
 Code.wpIn (F.inRound l) (n - 1 - 1) Tryz.prog (Code.block 1 (((Code.region 4 #[{ dst := some 16, op := Op.move (Operand.tmp 10), type := 3, pos := "expr.go:108", after := #[], guard := none }, { dst := some 17, op := Op.binOp BinOp.eql 3 (Operand.tmp 16) (Operand.const (Value.int IntKind.i64 (-1))) 3, type := 4, pos := "expr.go:108", after := #[{ on := 0, ground := Ground.data }], guard := none }] false).seq (Code.cond (Operand.tmp 17) (Code.exit 1) Code.skip)).seq (((Code.region 5 #[{ dst := some 18, op := Op.move (Operand.tmp 10), type := 3, pos := "expr.go:111", after := #[], guard := none }, { dst := some 19, op := Op.load 3 (Operand.tmp 8), type := 3, pos := "expr.go:111", after := #[], guard := none }, { dst := some 20, op := Op.binOp BinOp.sub 3 (Operand.tmp 19) (Operand.const (Value.int IntKind.i64 1)) 3, type := 3, pos := "expr.go:111", after := #[{ on := 1, ground := Ground.data }], guard := none }, { dst := some 21, op := Op.binOp BinOp.neq 3 (Operand.tmp 18) (Operand.tmp 20) 3, type := 4, pos := "expr.go:111", after := #[{ on := 0, ground := Ground.data }, { on := 2, ground := Ground.data }], guard := none }] false).seq (Code.cond (Operand.tmp 21) ((Code.region 6 #[{ dst := none, op := Op.store 3 (Operand.tmp 6) (Operand.const (Value.int IntKind.i64 0)), type := 0, pos := "expr.go:112", after := #[], guard := none }, { dst := none, op := Op.store 4 (Operand.tmp 7) (Operand.const (Value.bool false)), type := 0, pos := "expr.go:112", after := #[{ on := 0, ground := Ground.chain }, { on := 0, ground := Ground.phase }], guard := none }] false).seq Code.ret) Code.skip)).seq (Code.region 7 #[{ dst := some 22, op := Op.load 55 (Operand.tmp 3), type := 55, pos := "expr.go:114", after := #[], guard := none }, { dst := some 23, op := Op.move (Operand.tmp 10), type := 3, pos := "expr.go:114", after := #[], guard := none }, { dst := some 24, op := Op.indexAddr 55 (Operand.tmp 22) (Operand.tmp 23), type := 0, pos := "expr.go:114", after := #[{ on := 0, ground := Ground.data }, { on := 1, ground := Ground.data }], guard := none }, { dst := some 25, op := Op.load 3 (Operand.tmp 24), type := 3, pos := "expr.go:114", after := #[{ on := 2, ground := Ground.data }], guard := none }, { dst := none, op := Op.store 3 (Operand.tmp 8) (Operand.tmp 25), type := 0, pos := "expr.go:114", after := #[{ on := 3, ground := Ground.data }, { on := 0, ground := Ground.phase }, { on := 1, ground := Ground.phase }, { on := 2, ground := Ground.phase }, { on := 3, ground := Ground.phase }], guard := none }] false)))) Q (Act.mk #[Value.slice (some { block := b, off := off }) len cap, Value.slice a2 len2 cap2, Value.int IntKind.i64 nx0,
  Value.pointer (some {block:=B,off:=0}),undef,undef,
  Value.pointer (some {block:=B+1,off:=0}),
  Value.pointer (some {block:=B+1+1,off:=0}),
  Value.pointer (some {block:=B+1+1+1,off:=0}),undef,.int .i64 (m:Int),Value.int IntKind.i64 nx0,
  Value.slice a2 len2 cap2,
  Value.func (Fn.func 166) #[] #[Value.pointer (some {block:=B+1+1+1+1,off:=0})],
  .int .i64 x1,.int .i64 (m:Int),undef,undef,undef,undef,undef,undef,undef,undef,undef,undef,undef] []) W:=by
 have hm2: ¬((m:Int)= -1):=by omega
 gi_wp2
 exact hn _
set_option maxRecDepth 100000 in
set_option maxHeartbeats 4000000 in
def Tog.together_in (F:Fence)(n:Nat)(h4:F.fn 117)(h6:F.fn 150)(h8:F.fn 166)(hro:F.round=none)(hn:3<=n)(a1 a2:Option Addr)(len1 cap1 len2 cap2:Nat)(f zs:List Int)
 (hreach:zs.length*8<=140737488351232) (hreach1:f.length*8<=140737488351232) (hf:Tog.ok f) (nx0:Int) (hx0:0<=nx0) (hx1:nx0<=f.length) (w:World) (hI1:Tog.Ints w.heap.size w (.slice a1 len1 cap1) f) (hI2:Tog.Ints w.heap.size w (.slice a2 len2 cap2) zs):
 CallsIn F n Tryz.prog 117 #[.slice a1 len1 cap1,.slice a2 len2 cap2,.int .i64 nx0] w λe W'=>
  e= .returned (match Go.Abs.togSt f zs.reverse nx0 with|some v=> .tuple #[.int .i64 v,.bool true]|none=> .tuple #[.int .i64 0,.bool false])/\Below w.heap.size w W':=by
 have h1:1<=n:=by omega
 obtain⟨rv,hrv⟩: ∃rv,rv=(match Go.Abs.togSt f zs.reverse nx0 with|some v=>Value.tuple #[.int .i64 v,.bool true]|none=>Value.tuple #[.int .i64 0,.bool false]):=⟨_,rfl⟩
 rw[<-hrv];refine callsIn_of_wp_marks Tryz.func117 rfl h4 ?_ hro;simp only[Tryz.ntmps117,List.size_toArray,List.length_cons,List.length_nil,Nat.reduceAdd,Nat.reduceSub,Array.replicate_succ,Array.replicate_zero,List.push_toArray,List.append_toArray,List.nil_append,List.cons_append]
 gi_wp2_with (gi_at_call 150;refine(Tog.back_in F (n-1) h6 hro _ _ _ _).mono ?_;rintro e w' ⟨rfl,rfl⟩)
 obtain⟨w5,hw5⟩: ∃w5,w5=((((w.alloc (Obj.cells #[Value.slice a1 len1 cap1] 55)).alloc (Obj.cells #[Value.int IntKind.i64 0] 3)).alloc (Obj.cells #[Value.bool false] 4)).alloc (Obj.cells #[Value.int IntKind.i64 nx0] 3)).alloc (Obj.cells #[Value.slice a2 len2 cap2] 55):=⟨_,rfl⟩;rw[<-hw5];have hsize:w5.heap.size=w.heap.size+5:=by rw[hw5];simp
 have hB0:Below w.heap.size w w5:=by rw[hw5];exact(((((Below.refl _ w).alloc (Nat.le_refl _) _).alloc (by simp) _).alloc (by simp;omega) _).alloc (by simp;omega) _).alloc (by simp;omega) _
 have b0:Boxed w5 w.heap.size 55 (Value.slice a1 len1 cap1):=by rw[hw5];exact((((Boxed.new w _ _).alloc _).alloc _).alloc _).alloc _
 have b1:Boxed w5 (w.heap.size+1) 3 (.int .i64 0):=by rw[hw5];have:=Boxed.new (w.alloc (Obj.cells #[Value.slice a1 len1 cap1] 55)) 3 (.int .i64 0);rw[World.size_alloc]at this;exact((this.alloc _).alloc _).alloc _
 have b2:Boxed w5 (w.heap.size+1+1) 4 (.bool false):=by rw[hw5];have:=Boxed.new ((w.alloc (Obj.cells #[Value.slice a1 len1 cap1] 55)).alloc (Obj.cells #[Value.int IntKind.i64 0] 3)) 4 (.bool false);rw[World.size_alloc,World.size_alloc]at this;exact(this.alloc _).alloc _
 have b3:Boxed w5 (w.heap.size+1+1+1) 3 (.int .i64 nx0):=by rw[hw5];have:=Boxed.new (((w.alloc (Obj.cells #[Value.slice a1 len1 cap1] 55)).alloc (Obj.cells #[Value.int IntKind.i64 0] 3)).alloc (Obj.cells #[Value.bool false] 4)) 3 (.int .i64 nx0);rw[World.size_alloc,World.size_alloc,World.size_alloc]at this;exact this.alloc _
 have b4:Boxed w5 (w.heap.size+1+1+1+1) 55 (Value.slice a2 len2 cap2):=by rw[hw5];have:=Boxed.new ((((w.alloc (Obj.cells #[Value.slice a1 len1 cap1] 55)).alloc (Obj.cells #[Value.int IntKind.i64 0] 3)).alloc (Obj.cells #[Value.bool false] 4)).alloc (Obj.cells #[Value.int IntKind.i64 nx0] 3)) 55 (Value.slice a2 len2 cap2);rw[World.size_alloc,World.size_alloc,World.size_alloc,World.size_alloc]at this;exact this
 have hi5:Tog.Inv w (Value.slice a1 len1 cap1) nx0 0 false w5:=⟨hB0,b0.cell,b1.cell,b1.frozen,b2.cell,b2.frozen,b3.cell,b3.frozen⟩;refine wpIn_rangeFunc_ownG hro h1 (gf:=166) (lb:= #[.pointer (some ⟨w.heap.size+1+1+1+1,0,none⟩)]) rfl h8 (enters_of Tryz.func166 (by kernel_rfl) rfl)
  (Tog.back_stops F (n-1) h8 hro (by omega) (w.heap.size+1+1+1+1) w.heap.size _ zs hreach w5 (by omega) (by omega) b4.cell (hI2.below hB0)) (λh k=>Tog.Kp.trans h k) (Tog.Kp.put (by omega) (by omega)) (Below.refl _ _) (λ_=>rfl)
  (λpre W=> ∃nx,Go.Abs.togSt f (pre.map Prod.snd) nx0=some nx/\0<=nx/\nx<=f.length/\Tog.Inv w (Value.slice a1 len1 cap1) nx 0 false W)
  (λc pre W=>c= .ret/\Go.Abs.togSt f (pre.map Prod.snd) nx0=none/\ ∃nx,Tog.Inv w (Value.slice a1 len1 cap1) nx 0 false W)
  (λs A B row hs hg hr=>by obtain⟨nx,h1,h2,h3,h4⟩:=hs;exact⟨nx,h1,h2,h3,h4.grow hg λr e=>⟨by have:=(hr r e).1;omega,(hr r e).2⟩⟩)
  (λc s A B row hs hg hr=>by obtain⟨h1,h2,nx,h4⟩:=hs;exact⟨h1,h2,nx,h4.grow hg λr e=>⟨by have:=(hr r e).1;omega,(hr r e).2⟩⟩)
  ⟨nx0,rfl,hx0,hx1,hi5⟩
  (λx => { tmps := #[Value.slice a1 len1 cap1, Value.slice a2 len2 cap2, Value.int IntKind.i64 nx0,
   Value.pointer (some {block:=w.heap.size,off:=0}),undef,undef,
   Value.pointer (some {block:=w.heap.size+1,off:=0}),
   Value.pointer (some {block:=w.heap.size+1+1,off:=0}),
   Value.pointer (some {block:=w.heap.size+1+1+1,off:=0}),undef,.int .i64 x.2,Value.int IntKind.i64 nx0,
   Value.slice a2 len2 cap2,
   Value.func (Fn.func 166) #[] #[Value.pointer (some {block:=w.heap.size+1+1+1+1,off:=0})],
   .int .i64 x.1,.int .i64 x.2,undef,undef,undef,undef,undef,undef,undef,undef,undef,undef,undef],defers:=[]}) ?assign ?body ?done ?stop
 case assign=>
  intro l x W K hK
  gi_wp2
  exact hK
 case body=>
  rintro l pre ⟨x1,x2⟩ W ⟨nx,hst,hn0,hn1,hi⟩ _;have hi':=hi;obtain⟨hb,c0,c1,f1,c2,f2,c3,f3⟩:=hi;by_cases h2:x2= -1
  ·subst h2
   gi_wp2
   refine⟨KeepsFrom.refl _ _,Tog.Kp.refl _ _ _,nx,?_,hn0,hn1,hi'⟩;rw[List.map_append,List.map_cons,List.map_nil,Tog.st_snoc,hst];rfl
  ·by_cases h3:x2=nx-1
   ·obtain⟨m,rfl⟩: ∃m:Nat,x2=m:=⟨x2.toNat,by omega⟩;obtain rfl:nx=(m:Int)+1:=by omega
    have hml:m<f.length:=by omega
    rcases hI1.below hb with⟨_,rfl⟩|⟨b,off,cap,e,hbb,hcs⟩
    ·simp at hml
    ·have hcm:=hcs m hml;obtain⟨y,hyv⟩: ∃y,(f[m]?).getD 0=y:=⟨_,rfl⟩;rw[hyv]at hcm;have hs:Go.Abs.togStep f ((m:Int)+1) m=some y:=by unfold Go.Abs.togStep;rw[if_neg h2,if_pos (by omega),Int.toNat_natCast,hyv]
     generalize hQ:ownPostG _ _ _ _ _ _=Q;have hn: ∀a,Q .normal a (W.setCell ⟨w.heap.size+1+1+1,0,none⟩ (.int .i64 y)):=by
      intro a;rw[<-hQ];refine⟨(KeepsOthers.setCell _ _ _).from _,⟨(Below.refl _ _).setCell (by show _<=w.heap.size+1+1+1;omega) _,?_⟩,y,?_,(Tog.step_ok hf hn0 hn1 hs).1,(Tog.step_ok hf hn0 hn1 hs).2,hi'.next y⟩
      ·rw[Tog.far _ _ _ _ (by first|(simp;done)|(simp;omega))]
      ·rw[List.map_append,List.map_cons,List.map_nil,Tog.st_snoc,hst];exact hs
     clear hQ;rw[e]at c0 |-;exact Tog.body_in F l n b off cap f.length cap2 len2 a2 m y nx0 x1 w.heap.size w W Q hml (by omega) c0 c3 f3 hcm hn
   ·gi_wp2
    refine⟨⟨?_,?_⟩,rfl,?_,nx,hi'.res 0 false⟩
    ·simp
    ·intro k o hk ho hoc;have k1:=((KeepsOthers.setCell W ⟨w.heap.size+1,0,none⟩ (.int .i64 0))).same k o ho hoc;exact(KeepsOthers.setCell _ ⟨w.heap.size+1+1,0,none⟩ (.bool false)).same k o k1 hoc
    ·rw[List.map_append,List.map_cons,List.map_nil,Tog.st_snoc,hst];simp only[Option.bind_some,Go.Abs.togStep,if_neg h2,if_neg h3]
 case done=>
  rintro D ys W hD rfl ⟨nx,hst,hn0,hn1,hi⟩ hK;have hi':=hi;obtain⟨hb,c0,c1,f1,c2,f2,c3,f3⟩:=hi;rw[Tog.upto_rev]at hst;rw[hst]at hrv;dsimp only at hrv;subst hrv;clear b0 b1 b2 b3 b4 hi5
  gi_wp2
  have hi2:=hi'.res nx true;have hK':=(KeepsOthers.setCell (W.setCell ⟨w.heap.size+1,0,none⟩ (.int .i64 nx)) ⟨w.heap.size+1+1,0,none⟩ (.bool true)).same D _ ((KeepsOthers.setCell W ⟨w.heap.size+1,0,none⟩ (.int .i64 nx)).same D _ hK rfl) rfl;refine⟨by simp,.inl ⟨_,_,rfl,run_takeDeferred hK',?_⟩⟩;have hi3:=hi2.grow (grownBy_putObj' _ D (.deferred none)) (λr e=>by cases e;exact⟨by omega,_,hK',rfl⟩);refine⟨.tuple #[.int .i64 nx,.bool true],?_,rfl,hi3.b⟩;have k1:=hi3.c1;have k2:=hi3.c2;simp[results,Tryz.f117,go_sem,k1,k2]
 case stop=>
  rintro D c pre W hD ⟨k,hk,rfl⟩ ⟨rfl,hst,nx,hi⟩ hK;obtain⟨r,hr⟩:=Tog.upto_pre zs hk;have hst2:Go.Abs.togSt f zs.reverse nx0=none:=by rw[hr];exact Tog.st_none _ _ _ _ hst
  rw[hst2]at hrv;dsimp only at hrv;subst hrv;have hi':=hi;obtain⟨hb,c0,c1,f1,c2,f2,c3,f3⟩:=hi;clear b0 b1 b2 b3 b4 hi5
  gi_wp2
  refine⟨by simp,.inl ⟨_,_,rfl,run_takeDeferred hK,?_⟩⟩;have hi3:=hi'.grow (grownBy_putObj' _ D (.deferred none)) (λr e=>by cases e;exact⟨by omega,_,hK,rfl⟩);refine⟨.tuple #[.int .i64 0,.bool false],?_,rfl,hi3.b⟩;have k1:=hi3.c1;have k2:=hi3.c2;simp[results,Tryz.f117,go_sem,k1,k2]
end Go.Proofs
set_option maxRecDepth 100000
namespace Go.Abs
open Go Go.Proofs Go.RowKit
section
variable {W0 w:World}{μ:Mu}
def RX {G:Gh}{b:Nat}: ∀(l:List CV) (off:Nat) (zs:List Int),EL G w b 1 off l->intsOf l=some zs->zs.length=l.length/\ ∀j,j<zs.length->w.cell? ⟨b,off+j,none⟩=some (.int .i64 (zs[j]?.getD 0))
 |[],off,zs,_,h=>by injection h with h;subst h;exact⟨rfl,λj hj=>by simp at hj⟩
 |x::r,off,zs,h,hz=>by
  unfold intsOf at hz;split at hz
  ·rename_i e;cases e
  ·rename_i n r' e;injection e with e1 e2;subst e1 e2;obtain⟨l,hl,h2⟩:=cF hz;injection h2 with h2;subst h2;simp only[EL]at h;obtain⟨⟨v,hv,_,hx⟩,hr⟩:=h;simp only[VR]at hx;subst hx;obtain⟨i1,i2⟩:=RX r (off+1) l hr hl;refine⟨by simp[i1],λj hj=> ?_⟩;cases j with|zero=>simpa using hv|succ j=>have:=i2 j (by simpa using hj);rw[show off+(j+1)=off+1+j by omega];simpa using this
  ·cases hz
def BC: ∀(l:List CV) (zs:List Int),intsOf l=some zs-> ∀x∈l,x.cells.length=1
 |[],zs,_,x,hx=>by simp at hx|y::r,zs,hz,x,hx=>by
  unfold intsOf at hz;split at hz
  ·rename_i e;cases e
  ·rename_i n r' e;injection e with e1 e2;subst e1 e2;obtain⟨l,hl,h2⟩:=cF hz;rcases ed.1 hx with rfl|hx
   ·rfl
   ·exact BC r l hl x hx
  ·cases hz
def TM {G:Gh}{b off cap s:Nat}{xs:List CV}{zs:List Int}(hz:intsOf xs=some zs)(h0:xs≠[])(hs: ∀x∈xs,x.cells.length=s)(he:EL G w b s off xs):Tog.Ints w.heap.size w (.slice (some ⟨b,off,none⟩) xs.length cap) zs:=by
 have h1:s=1:=by
  match xs,h0 with
  |y::r,_=>rw[<-hs y bE];exact BC _ _ hz y bE
 subst h1;obtain⟨i1,i2⟩:=RX xs off zs he hz;refine Or.inr ⟨b,off,cap,by rw[i1],?_,i2⟩;have hp:0<xs.length:=Di.2 h0;have:=Ib (i2 0 bu);exact this
def TN {G:Gh}{L:Nat}{x:LV}{v:Value}{xs:List CV}{zs:List Int}(h:LVR G w L 0 x v)(hx:cj x=some xs)(hz:intsOf xs=some zs): ∃a len cap,v= .slice a len cap/\Tog.Ints w.heap.size w (.slice a len cap) zs:=by
 unfold cj at hx;split at hx
 ·rename_i ys;injection hx with hx;subst ys;simp only[LVR,VR]at h;obtain⟨A,len,cap,rfl,rfl,h1,h2⟩:=h;refine⟨A,_,cap,rfl,?_⟩;by_cases h0:xs=[]
  ·subst h0;injection hz with hz;exact .inl ⟨⟨A,cap,rfl⟩,hz.symm⟩
  ·rcases h2 with h2|⟨b,off,s,rfl,h3,h4⟩
   ·exact absurd (List.length_eq_zero_iff.1 h2) h0
   ·exact TM hz h0 h3 h4
 ·injection hx with hx;subst hx;simp only[LVR,VR]at h;subst h;injection hz with hz;exact⟨none,0,0,rfl,.inl ⟨⟨none,0,rfl⟩,hz.symm⟩⟩
 ·rename_i ys;injection hx with hx;subst ys;simp only[LVR,pp]at h;rcases h with⟨rfl,rfl⟩|⟨b,cap,cur,e,s,rfl,h6,_,_,_,h3,h5,h4,_⟩
  ·injection hz with hz;exact⟨none,0,0,rfl,.inl ⟨⟨none,0,rfl⟩,hz.symm⟩⟩
  ·refine⟨_,_,cap,rfl,?_⟩;by_cases h0:xs=[]
   ·subst h0;injection hz with hz;exact .inr ⟨b,0,cap,by rw[<-hz];rfl,Ip h6,λj hj=>by rw[<-hz]at hj;simp at hj⟩
   ·exact TM hz h0 h3 h4
 ·cases hx
def U5 {cargs:Array Value}{v1 v2 v3:Value}(hs:cargs.size=3)(h1:cargs.getD 0 undef=v1)(h2:cargs.getD 1 undef=v2)(h3:cargs.getD 2 undef=v3):cargs= #[v1,v2,v3]:=by
 apply xM
 ·simpa using hs
 ·intro j k1 k2;rw[ex,xO bu]at h1 h2 h3;have:j=0\/j=1\/j=2:=bu;rcases this with rfl|rfl|rfl
  ·simpa using h1
  ·simpa using h2
  ·simpa using h3
def RD {args:List LV}{out:Out}(h:Cc args μ=some out):fT E.P W0 117 args μ out:=by
 unfold Cc at h;obtain⟨q,hq,h⟩:=cF h;obtain⟨r,hr,h⟩:=cF h;obtain⟨z,hz,h⟩:=cF h;obtain⟨u,hu,h⟩:=cF h;obtain⟨f,hf,h⟩:=cF h;obtain⟨l,hl,h⟩:=cF h;obtain⟨nx,hnx,h⟩:=cF h;obtain⟨fi,hfi,h⟩:=cF h;obtain⟨li,hli,h⟩:=cF h;obtain⟨hg,h⟩:=jj h;injection h with h;subst h;have hargs:args=[q.1,r.1,z.1]:=by rw[fg hq,fg hr,fg hz,jc hu]
 subst hargs;unfold aep at hg;simp only[cE,dA,xE]at hg;obtain⟨⟨⟨⟨g1,g2⟩,g3⟩,g4⟩,g5⟩:=hg;refine nF (gW Tryz.func117 rfl bw) λG w cargs hs hv h1 h2=> ?_;obtain⟨a1,len1,cap1,e1,I1⟩:=TN (hv 0 _ rfl) hf hfi;obtain⟨a2,len2,cap2,e2,I2⟩:=TN (hv 1 _ rfl) hl hli;have e3:=hv 2 _ rfl;rw[yT hnx]at e3;simp only[LV.int,CV.int,LVR,VR]at e3;rw[U5 (by simpa using hs) e1 e2 e3];refine((Tog.together_in Fence.wide 3 trivial trivial trivial rfl (ct _) a1 a2 len1 cap1 len2 cap2 fi li bu bu (λv hv=>by simpa using g5 v hv) nx g3 g4 w I1 I2).calls λk d hd=>by cases hd).mono λe w' ⟨k1,k2⟩=> ?_;refine⟨_,k1,k2,?_,λb hb=> ?_⟩
 ·unfold adu;cases Go.Abs.togSt fi li.reverse nx with|some v=>exact⟨_,rfl,_,_,rfl,rfl,rfl,_,_,rfl,rfl,rfl,rfl⟩|none=>exact⟨_,rfl,_,_,rfl,rfl,rfl,_,_,rfl,rfl,rfl,rfl⟩
 ·unfold adu at hb;split at hb<;>simp[b6]at hb
def Fv {args:List LV}{out:Out}(h:l5 sx args μ=some out):fT E.P W0 131 args μ out:=by
 unfold l5 at h;obtain⟨q,hq,h⟩:=cF h;obtain⟨r,hr,h⟩:=cF h;obtain⟨u,hu,h⟩:=cF h;obtain⟨s,hs,h⟩:=cF h;have hargs:args=[LV.str s,r.1]:=by rw[fg hq,fg hr,jc hu,kI hs]
 rw[hargs];split at h
 ·rename_i g hg;rw[hg];obtain⟨p,hp,h⟩:=cF h;injection h with h;subst h;unfold sx at hp;split at hp
  ·injection hp with hp;subst hp;exact IC ak6 Tryz.call186 (λb hb=>rfl) (λx hx=>by simp;omega) (λb hb=>by simp;omega)
  ·injection hp with hp;subst hp;exact IC p44 Tryz.call132 (λb hb=>rfl) (λx hx=>by simp;omega) (λb hb=>by simp;omega)
  ·injection hp with hp;subst hp;refine IC p92 Tryz.call137 (λb hb=>aci ⟨b.toNat,hb⟩) (λx hx=> ?_) (λb hb=> ?_)
   ·unfold KV;have:decide (126<x)=true:=b7;rw[this];rfl
   ·simp;omega
  ·cases hp
 ·cases h
def aaR (B:Base W0):CN E W0:=by
 intro f g hf args μ out h;have hp:WK f=some g:=hf;unfold WK at hp;split at hp<;>first|(cases hp;done)|skip
 all_goals(injection hp with hp;subst hp)
 all_goals first
  |exact RD h|exact WC B h|exact afB B h|exact afC B h|exact OG B h|exact KB B h|exact RE B h|exact OH B h|exact acX B h|exact KA B h|exact Fv h|exact OF h|exact aay h
end
end Go.Abs
namespace Go.Abs.Ga
open Go Go.Proofs
section
variable {P:Program}{t:TypeId}{c:CV}
end
end Go.Abs.Ga
set_option maxRecDepth 100000
namespace Go.Proofs.YtmemoghbijcebaaGreatDoor.ExprTokens
open Go Go.Proofs
def IJ:Tryz.prog.closure 4=[4,12,13,51,85,127,151,167,131,154,171,186,152,168,169,187,82,126,160,188,190,189,207,133,155,172,196,216,217,156,173,197,174,175,199,218,230,243,244,254,253,255,245,246,256,257,262,263,198,176,191,205,206,224,231,247,258,259,213,228,239,251,240,241,242,252,157,153,170,177,200,129,178,201,89,135,138,136,130,158,179,180,202,219,181,159,182,203,220,221,192,193,92,208,209,210,225,232,233,234,248,235,249,260,264,265,226,236,237,238,250,261,211,227,229,212,194,214,195,215,93,18,55,90,132,134,91,137,56,94,95,139,161,183,162,164,184,204,222,223,185,76,123,163,69,118,119,165,57,96,73,58,97,140,98,22,53,64,33,67,72,117,150,166,78,68,115,114,87,128,88,16,26,65,19,20,59,99,30,122,142,106,62,104,25,63,105,107,108,109,110,143,144,145,146,147,148,111,149,112,113,44,81,124,125,84,60,100,101,102,141,45,79,42,103,32,61,15,52,86]:=by kernel_rfl
def inPlace:Tryz.prog.inPlace 4=Rows.exprTokensRow.inPlace:=by unfold Program.inPlace;rw[IJ];kernel_rfl
def unfollowed:Tryz.prog.unfollowed 4=Rows.exprTokensRow.unfollowed:=by unfold Program.unfollowed;rw[IJ];kernel_rfl
def recurses:Tryz.prog.recurses 4=Rows.exprTokensRow.recurses:=by unfold Program.recurses;rw[unfollowed];rfl
def varsNamed:Tryz.prog.varsNamed 4=Rows.exprTokensRow.named:=by unfold Program.varsNamed;rw[IJ];kernel_rfl
def ah3:joinedFacts Tryz.pinned.checked.prog 4 Tryz.f4 (OpenSpec.ofChange Rows.exprTokensSpec).bare Rows.exprTokensRow=true:=by unfold joinedFacts;rw[show Tryz.pinned.checked.prog.inPlace 4=_ from inPlace,show Tryz.pinned.checked.prog.unfollowed 4=_ from unfollowed,show Tryz.pinned.checked.prog.recurses 4=_ from recurses,show Tryz.pinned.checked.prog.varsNamed 4=_ from varsNamed];kernel_rfl
end Go.Proofs.YtmemoghbijcebaaGreatDoor.ExprTokens
set_option maxRecDepth 100000
namespace Go.Proofs.YtmemoghbijcebaaGreatDoor.ExprTokens
open Go Go.Proofs Go.Abs Go.ChangeShapes Go.WideShapes Go.ChangeAt Go.RowKit Glue
def abW (H:Type)(enc:TypeId×Value->H)(W:World)(base:Nat)(args:Array Value)(ds gs:List (DataW H))(before:List MemPlace)
 (hval: ∀(j:Nat) t v,Tryz.f4.params[j]? =some t->args[j]? =some v->Value.okWide Tryz.prog W .any base t v)
 (hW:DataW.Whole enc Tryz.prog Tryz.f4.params.toList Rows.exprTokensSpec.vars false W args.toList ds gs before) (hL:laidMetH Tryz.prog Rows.exprTokensRow.laid W) (hS:W.ShapedOpen Tryz.prog):
 Calls Tryz.prog 4 args W λe W'=> ∃v,e= .returned v/\Rows.exprTokensSpec.post enc Tryz.prog Tryz.f4 false true false false W args v W':=by
 have hL':laidMet Tryz.prog C0 W:=hL;have B:=LW hL' hS;have hW':=hW;obtain⟨p,q,hA0,hV0,rfl,_,_⟩:=hW;have hA:DataW.TrodAll enc Tryz.prog W 0 (λ_=>true) true Tryz.f4.params.toList args.toList ds p:=hA0;rw[Tryz.params4]at hA hval;obtain⟨v0,vs0,d0,ds0,p0,q0,e0,rfl,rfl,h0,r0⟩:=trodAll_cons hA;obtain⟨rfl,rfl,rfl⟩:=trodAll_nil r0;obtain rfl:args= #[v0]:=by cases args;simp_all
 obtain⟨rfl,rfl⟩:=trodVars_none hV0;obtain⟨c0,V0,I0⟩:=Ga.open_arg (n:=8) (l:=[.sl true [.int .i64,.int .i64,.str]]) bw (hval 0 35 v0 rfl rfl) h0;obtain⟨x0,X0⟩:=Ga.is_toks (t:=35) bw I0;clear hA0 hV0;simp only[List.append_nil]at hW';have hm:fT Tryz.prog W 4 ([c0].map LV.cv) [] (.ret (LV.bool true) []):=by refine MO ahi (aaR B) ?_;show (ev E).call 4 [LV.cv c0] []=_;rw[(X0).1];exact akt
 refine(fT.bool (cargs:= #[v0]) hm rfl (λj x hx=> ?_)).mono λe W' ⟨he,hk⟩=> ?_
 ·match j,hx with
  |0,hx=>injection hx with hx;subst hx;exact V0
 ·subst he;exact⟨_,rfl,Ga.post_true (tb:=4) aeW bw Tryz.underlying4 bw rfl hW' rfl rfl rfl hk⟩
def RU (os:Os){H:Type}(enc:TypeId×Value->H):
 (OpenSpec.ofChange Rows.exprTokensSpec).preRow enc Tryz.prog Tryz.f4 Rows.exprTokensRow.domain false Rows.exprTokensRow.laid ((mW os).forCall (λ_ _=>0) ⟨#[],#[.slice none 0 0],[]⟩).memory #[.slice none 0 0]:=by
 have hw:(DataW.whole enc Tryz.prog ((mW os).forCall (λ_ _=>0) ⟨#[],#[.slice none 0 0],[]⟩).memory Tryz.f4.params.toList Rows.exprTokensSpec.vars false (#[.slice none 0 0]:Array Value).toList 8).map (λx=>(x.1,x.2.1))=
  some ([.nil],[]):=bw
 obtain⟨⟨x1,x2,x3⟩,hx,hx1⟩:=Option.map_eq_some_iff.1 hw;simp only[Prod.mk.injEq]at hx1;obtain⟨rfl,rfl⟩:=hx1;exact OpenSpec.preRow_of_cond 8 hx bw (λk hk=>by cases hk) bw (acb os _)
def ag0 (os:Os)(started:os.Started)(H:Type)(enc:TypeId×Value->H)(F:Stop.Interp):
 ReturnsInHanded {} Tryz.checked os 4 .any ((OpenSpec.ofChange Rows.exprTokensSpec).preRow enc Tryz.prog Tryz.f4 Rows.exprTokensRow.domain false Rows.exprTokensRow.laid) (((OpenSpec.ofChange Rows.exprTokensSpec).at F).post enc Tryz.prog Tryz.f4 false true false false):=by
 refine returnsInHanded_of_row (C:=Tryz.checked) (s:=OpenSpec.ofChange Rows.exprTokensSpec) own started bw Tryz.func4
  (witness_row_atRef (enc:=enc) (C:=Tryz.checked) false (mW os) #[.slice none 0 0] rfl bw bw bw (RU os enc)) ?_
 intro W base args ds gs before hval hW _ _ _ hL hS _;exact abW H enc W base args ds gs before hval hW hL hS
def said:Rows.ExprTokensSaid:=
 OpenClaim.holds_of_cond 4 Tryz.f4 rfl rfl rfl rfl rfl rfl rfl ⟨rfl,rfl,rfl,rfl,rfl⟩ rfl rfl rfl rfl rfl bw Tryz.func4 ah3
  (of_decide_eq_true bw) (by unfold Func.isWrapper;first|(rw[if_pos (by decide+kernel)];kernel_rfl)|(rw[if_neg (by decide+kernel)];exact⟨rfl,rfl⟩))
  (λos started H enc _ F=>by rw[OpenClaim.pre_eq_preRow];exact ag0 os started H enc F)
def plain (f:FuncId)(fn:Func)(hf:Tryz.pinned.checked.prog.funcNamed "formulary/formularylaw04.ExprTokens" =some f)(hfn:Tryz.pinned.checked.prog.funcs[f]? =some fn):
 true=Tryz.pinned.checked.prog.looks []/\ ∀(j:Nat) t,fn.params[j]? =some t->Tryz.pinned.checked.prog.wantsStandIn t=false:=by
 obtain rfl:f=4:=Option.some.inj ((show Tryz.prog.funcNamed "formulary/formularylaw04.ExprTokens" =some 4 by kernel_rfl).symm.trans hf) |>.symm;obtain rfl:fn=Tryz.f4:=(Option.some.inj (Tryz.func4.symm.trans hfn)).symm;refine⟨bw,λj t ht=> ?_⟩;rw[Tryz.params4]at ht;have hm:=Array.mem_of_getElem? ht;simp only[List.mem_toArray,List.mem_cons,List.not_mem_nil,or_false]at hm;subst hm
 ·exact(show Tryz.prog.wantsStandIn 35=false by kernel_rfl)
end Go.Proofs.YtmemoghbijcebaaGreatDoor.ExprTokens
namespace Go.Proofs.YtmemoghbijcebaaGreatDoor
theorem exprTokens_holds:Rows.ExprTokensCardSaid:=
 Claim7.holds_tied_plain_at .later [] _ _ _ _ ExprTokens.said (λ_ h=>by cases h) (by kernel_rfl) (λ_ h=>by cases h) exprTokens_row_tie rfl ⟨rfl,rfl⟩ (by kernel_rfl) rfl ExprTokens.plain (by kernel_rfl)
#print axioms exprTokens_holds
end Go.Proofs.YtmemoghbijcebaaGreatDoor
