/-
  The statement ExprLevelsCardSaid, proved; part 10 of 11 of its proof.
  The canonical text of a tree: the program's print.
  Which expressions are valid: one node, all nodes.
  Which expressions are valid: the program's check, and its trees.
  Which expressions are valid: the reference's functions.
  Which expressions are valid: the reference's error of a node.
  Which expressions are valid: the reference's check.
  Expressions: copies, the trees of a valid one, its level.
  Format and FormatLevels: an expression's text, or its error.
  ExprChecks answers true for every expression.
  ExprLevels: a finite matter.
  ExprLevels: the walk.
-/
import Derived.Test.YtmemoghbijcebaaGreatDoorV8
import Derived.Test.YtmemoghbijcebaaGreatDoorV7
import Derived.KernelRfl
import Derived.Test.YtmemoghbijcebaaGreatDoorV4
import Derived.Shelf.Strings.BuilderK
set_option linter.all false
set_option maxRecDepth 100000
namespace Go.Abs
open Go Go.Proofs
def NN {α:Type}(x:PR α):Prop:=x≠none
def NN.ret {α:Type}{a:α}{r:List Tok}:NN (fT a r):=λh=>by cases h
def NN.fail {α:Type}:NN (failP:PR α):=λh=>by cases h
def NN.bind {α β:Type}{r:List Tok}{x:PR β}{k:β->List Tok->PR α}(hs:Sh r x)(hx:NN x)(h: ∀a r',r'.length<=r.length->NN (k a r')):NN (eR x k):=by
 cases e:x with
 |none=>exact absurd e hx|some y=>
  cases y with|none=>exact λh=>by cases h|some q=>exact h q.1 q.2 (hs q.1 q.2 e)
def xx {s:List UInt8}{r r':List Tok}(hs:s≠[])(h:dD s r=some r'):r'.length+1=r.length:=by
 unfold dD at h;split at h
 ·rename_i ho;injection h with h;subst h;cases r with|nil=>exact absurd ho.symm hs|cons x r=>rfl
 ·cases h
def NN.take {α:Type}{s:List UInt8}{r:List Tok}{x:List Tok->PR α}{y:PR α}(hs:s≠[])(h: ∀r',r'.length+1=r.length->NN (x r'))(hy:NN y):NN (match dD s r with|some r'=>x r'|none=>y):=by
 cases t:dD s r with|none=>exact hy|some r'=>exact h r' (xx hs t)
def NN.take' {α:Type}{s:List UInt8}{r:List Tok}{x:List Tok->PR α}{y:PR α}(hs:s≠[])(h: ∀r',r'.length+1=r.length->NN (x r'))(hy:NN y):NN (match dD s r with|none=>y|some r'=>x r'):=by
 cases t:dD s r with|none=>exact hy|some r'=>exact h r' (xx hs t)
def NN.must {α:Type}{s:List UInt8}{r:List Tok}{k:List Tok->PR α}(hs:s≠[])(h: ∀r',NN (k r')):NN (nA s r k):=NN.take hs (λr' _=>h r') NN.fail
structure AdAll (f:Nat):Prop where
 level: ∀n r,1<=n->n<=10->24*r.length+2*(11-n)<=f->NN (dv f n r)
 first: ∀n r,1<=n->n<=9->24*r.length+2*(11-n)<=f+1->NN (gW f n r)
 loop: ∀n t r,1<=n->n<=9->24*r.length+1<=f->NN (iF f n t r)
 prim: ∀r,24*r.length+1<=f->NN (jC f r)
 list: ∀a r,24*r.length+23<=f->NN (jB f a r)
 part: ∀r,24*r.length+21<=f->NN (jU f r)
 arg: ∀r,24*r.length+22<=f->NN (nc f r)
def HX {n:Int}{r:List Tok}{m j k:Nat}(h:jm n (opR r) m j=some k):r.tail.length+1=r.length:=by
 cases r with|nil=>exact absurd rfl (ua h)|cons x r=>rfl
def XR: ∀f,AdAll f
 |0=>⟨λn r _ _ h=>by omega,λn r _ _ h=>by omega,λn t r _ _ h=>by omega,λr h=>by omega,λa r h=>by omega,λr h=>by omega,λr h=>by omega⟩|f+1=>by
  have ih:=XR f;have sh:=Rx f;refine⟨λn r h1 h2 h=> ?_,λn r h1 h2 h=> ?_,λn t r h1 h2 h=> ?_,λr h=> ?_,λa r h=> ?_,λr h=> ?_,λr h=> ?_⟩
  ·rw[dv];split
   ·exact ih.prim _ bu
   split
   ·exact NN.bind (sh.prim _) (ih.prim _ bu) λa r' hr=>NN.take bG (λr2 h2=>NN.bind (sh.level _ _) (ih.level _ _ bu bu bu) λ_ _ _=>NN.ret) NN.ret
   split
   ·exact NN.take bG (λr2 h2=>NN.bind (sh.level _ _) (ih.level _ _ bu bu bu) λ_ _ _=>NN.ret) (ih.level _ _ bu bu bu)
   split
   ·refine NN.bind (sh.level _ _) (ih.level _ _ bu bu bu) λa r' hr=> ?_;split
    ·rename_i k ho;have:=HX ho;exact NN.bind (sh.level _ _) (ih.level _ _ bu bu bu) λ_ _ _=>NN.ret
    ·exact NN.ret
   ·exact NN.bind (sh.first _ _) (ih.first _ _ bu bu bu) λa r' hr=>ih.loop _ _ _ bu bu bu
  ·rw[gW];split
   ·exact NN.take bG (λr2 h2=>NN.bind (sh.level _ _) (ih.level _ _ bu bu bu) λ_ _ _=>NN.ret) (NN.take bG (λr2 h2=>NN.bind (sh.level _ _) (ih.level _ _ bu bu bu) λ_ _ _=>NN.ret) (ih.level _ _ bu bu bu))
   ·exact ih.level _ _ bu bu bu
  ·rw[iF];split
   ·rename_i k ho;have:=HX ho;exact NN.bind (sh.level _ _) (ih.level _ _ bu bu bu) λ_ _ _=>ih.loop _ _ _ bu bu bu
   ·exact NN.ret
  ·rw[jC.eq_def];dsimp only;split
   ·exact NN.fail
   ·rename_i x r;have hr:(x::r).length=r.length+1:=rfl;split
    ·exact NN.ret
    split
    ·exact NN.take bG (λr2 h2=>NN.bind (sh.list _ _) (ih.list _ _ bu) λ_ _ _=>NN.ret) NN.ret
    split
    ·refine NN.bind (sh.level _ _) (ih.level _ _ bu bu bu) λa r' hr=>NN.take bG (λr2 h2=>NN.bind (sh.level _ _) (ih.level _ _ bu bu bu) λb r3 h3=> ?_) (NN.must bG λ_=>NN.ret);split
     ·exact NN.must bG λ_=>NN.ret
     ·exact NN.fail
    ·exact NN.fail
  ·rw[jB];exact NN.bind (sh.arg _) (ih.arg _ bu) λa r' hr=>NN.take bG (λr2 h2=>ih.list _ _ bu) (NN.must bG λ_=>NN.ret)
  ·rw[jU];split
   ·exact NN.ret
   ·exact NN.bind (sh.level _ _) (ih.level _ _ bu bu bu) λ_ _ _=>NN.ret
  ·rw[nc];refine NN.bind (sh.part _) (ih.part _ bu) λa r' hr=>NN.take' bG (λr2 h2=>NN.bind (sh.part _) (ih.part _ bu) λb r3 h3=>NN.take bG (λr4 h4=>NN.bind (sh.level _ _) (ih.level _ _ bu bu bu) λ_ _ _=>NN.ret) NN.ret) ?_;split
   ·exact NN.ret
   ·exact NN.fail
def qN (l:List Tok):Option (T×List Tok):=(dv (24*l.length+20) 1 l).getD none
def KO (l:List Tok):dv (24*l.length+20) 1 l=some (qN l):=by
 have:=(XR (24*l.length+20)).level 1 l bu bu bu;unfold qN;cases e:dv (24*l.length+20) 1 l with|none=>exact absurd e this|some x=>rfl
mutual
def T.len:T->Nat
 | .mk _ _ _ x=>1+lnA x
def lnA:List (Option T)->Nat
 |[]=>0|none::r=>1+lnA r|some t::r=>t.len+lnA r
end
def lnO:Option T->Nat
 |none=>0|some t=>t.len
def lnS (l:List T):Nat:=lnA (l.map some)
def u9: ∀a b:List (Option T),lnA (a++b)=lnA a+lnA b
 |[],b=>by simp[lnA]|none::r,b=>by simp[lnA,u9 r b];omega|some t::r,b=>by simp[lnA,u9 r b];omega
def EK {k:Int}{t:T}:(un k t).len=1+t.len:=by simp[un,T.len,lnA]
def As {k:Int}{t u:T}:(bin k t u).len=1+t.len+u.len:=by simp[bin,T.len,lnA];omega
def Ln {α:Type}(c:Nat)(m:α->Nat)(x:PR α):Prop:= ∀a r',x=some (some (a,r'))->m a+4*r'.length<=c
def Ln.ret {α:Type}{c:Nat}{m:α->Nat}{a:α}{r:List Tok}(h:m a+4*r.length<=c):Ln c m (fT a r):=λb s e=>by injection e with e;injection e with e;injection e with e1 e2;subst e1 e2;exact h
def Ln.fail {α:Type}{c:Nat}{m:α->Nat}:Ln c m (failP:PR α):=λa b e=>by cases e
def Ln.bind {α β:Type}{c d:Nat}{m:α->Nat}{m':β->Nat}{x:PR β}{k:β->List Tok->PR α}(hx:Ln d m' x)(h: ∀a r',m' a+4*r'.length<=d->Ln c m (k a r')):Ln c m (eR x k):=λt s e=>by
 rcases iR e with⟨_,h2⟩|⟨a,r1,h1,h2⟩
 ·cases h2
 ·exact h a r1 (hx _ _ h1) t s h2
def Ln.take {α:Type}{c:Nat}{m:α->Nat}{s:List UInt8}{r:List Tok}{x:List Tok->PR α}{y:PR α}(hs:s≠[])(h: ∀r',r'.length+1=r.length->Ln c m (x r'))(hy:Ln c m y):Ln c m (match dD s r with|some r'=>x r'|none=>y):=by
 cases t:dD s r with|none=>exact hy|some r'=>exact h r' (xx hs t)
def Ln.take' {α:Type}{c:Nat}{m:α->Nat}{s:List UInt8}{r:List Tok}{x:List Tok->PR α}{y:PR α}(hs:s≠[])(h: ∀r',r'.length+1=r.length->Ln c m (x r'))(hy:Ln c m y):Ln c m (match dD s r with|none=>y|some r'=>x r'):=by
 cases t:dD s r with|none=>exact hy|some r'=>exact h r' (xx hs t)
def Ln.must {α:Type}{c:Nat}{m:α->Nat}{s:List UInt8}{r:List Tok}{k:List Tok->PR α}(hs:s≠[])(h: ∀r',r'.length+1=r.length->Ln c m (k r')):Ln c m (nA s r k):=Ln.take hs h Ln.fail
structure LnAll (f:Nat):Prop where
 level: ∀n r,Ln (4*r.length) T.len (dv f n r)
 first: ∀n r,Ln (4*r.length) T.len (gW f n r)
 loop: ∀n t r,Ln (t.len+4*r.length) T.len (iF f n t r)
 prim: ∀r,Ln (4*r.length) T.len (jC f r)
 list: ∀a r,Ln (lnS a+4*r.length) lnS (jB f a r)
 part: ∀r,Ln (4*r.length) lnO (jU f r)
 arg: ∀r,Ln (4*r.length) T.len (nc f r)
def Ya: ∀f,LnAll f
 |0=>⟨λn r a b e=>by simp[dv]at e,λn r a b e=>by simp[gW]at e,λn t r a b e=>by simp[iF]at e,λr a b e=>by simp[jC]at e,λl r a b e=>by simp[jB]at e,λr a b e=>by simp[jU]at e,λr a b e=>by simp[nc]at e⟩|f+1=>by
  have ih:=Ya f;refine⟨λn r=> ?_,λn r=> ?_,λn t r=> ?_,λr=> ?_,λa r=> ?_,λr=> ?_,λr=> ?_⟩
  ·rw[dv];split
   ·exact ih.prim _
   split
   ·exact Ln.bind (ih.prim _) λa r' h=>Ln.take bG (λr2 h2=>Ln.bind (ih.level _ _) λ_ _ h3=>Ln.ret (by rw[As];omega)) (Ln.ret h)
   split
   ·exact Ln.take bG (λr2 h2=>Ln.bind (ih.level _ _) λ_ _ h3=>Ln.ret (by rw[EK];omega)) (ih.level _ _)
   split
   ·refine Ln.bind (ih.level _ _) λa r' h=> ?_;split
    ·rename_i k ho;have:=HX ho;exact Ln.bind (ih.level _ _) λ_ _ h3=>Ln.ret (by rw[As];omega)
    ·exact Ln.ret h
   ·exact Ln.bind (ih.first _ _) λa r' h=>λt s e=>by have:=ih.loop _ _ _ t s e;omega
  ·rw[gW];split
   ·exact Ln.take bG (λr2 h2=>Ln.bind (ih.level _ _) λ_ _ h3=>Ln.ret (by rw[EK];omega)) (Ln.take bG (λr2 h2=>Ln.bind (ih.level _ _) λ_ _ h3=>Ln.ret (by rw[EK];omega)) (ih.level _ _))
   ·exact ih.level _ _
  ·rw[iF];split
   ·rename_i k ho;have:=HX ho;exact Ln.bind (ih.level _ _) λu r' h3=>λt' s e=>by have:=ih.loop _ _ _ t' s e;rw[As]at this;omega
   ·exact Ln.ret (cw _)
  ·rw[jC.eq_def];dsimp only;split
   ·exact Ln.fail
   ·rename_i x r;have hr:(x::r).length=r.length+1:=rfl;split
    ·exact Ln.ret (by simp only[T.len,lnA];omega)
    split
    ·exact Ln.take bG (λr2 h2 => Ln.bind (ih.list _ _) λa r3 h3 => Ln.ret (by
      have e:lnS ([]:List T)=0:=by simp[lnS,lnA]
      unfold lnS at h3 e;rw[e]at h3;simp only[T.len]
      omega)) (Ln.ret (by simp only[T.len,lnA];omega))
    split
    ·refine Ln.bind (ih.level _ _) λa r' h=>Ln.take bG (λr2 h2=>Ln.bind (ih.level _ _) λb r3 h3=> ?_) (Ln.must bG λ_ h4=>Ln.ret (by rw[EK];omega));split
     ·exact Ln.must bG λ_ h4=>Ln.ret (by rw[As];omega)
     ·exact Ln.fail
    ·exact Ln.fail
  ·rw[jB];have e: ∀t:T,lnS (a++[t])=lnS a+t.len:=λt=>by simp[lnS,u9,lnA]
   exact Ln.bind (ih.arg _) λt r' h=>Ln.take bG (λr2 h2=>λt' s h3=>by have:=ih.list _ _ t' s h3;rw[e]at this;omega) (Ln.must bG λ_ h4=>Ln.ret (by rw[e];omega))
  ·rw[jU];split
   ·exact Ln.ret (by simp only[lnO];omega)
   ·exact Ln.bind (ih.level _ _) λ_ _ h=>Ln.ret h
  ·rw[nc];have e1: ∀a:Option T,lnA [a]<=1+lnO a:=λa=>by cases a<;>simp[lnA,lnO]
   have e3: ∀(a b c:Option T) (x:Nat),lnO a+lnO b+lnO c+4<=x->(T.mk 3 0 [] [a,b,c]).len<=x:=λa b c x h=>by have e:[a,b,c]=[a]++([b]++[c]):=rfl;rw[T.len,e,u9,u9];have:=e1 a;have:=e1 b;have:=e1 c;omega
   refine Ln.bind (ih.part _) λa r' h=>Ln.take' bG (λr2 h2=>Ln.bind (ih.part _) λb r3 h3=>Ln.take bG (λr4 h4=>Ln.bind (ih.level _ _) λc r5 h5=>Ln.ret ?_) (Ln.ret ?_)) ?_
   ·have:=e3 a b (some c) (4*r.length-4*r5.length) (by have:lnO (some c)=c.len:=rfl;omega);omega
   ·have:=e3 a b none (4*r.length-4*r3.length) (by have:lnO none=0:=rfl;omega);omega
   split
   ·exact Ln.ret h
   ·exact Ln.fail
def UM {l:List Tok}{t:T}{r:List Tok}(h:qN l=some (t,r)):t.len+4*r.length<=4*l.length:=(Ya _).level _ _ t r (by rw[KO,h])
mutual
def T.size_len: ∀t:T,t.size<=t.len
 | .mk _ _ _ x=>by have:=uf x;rw[T.size,T.len];omega
def uf: ∀x:List (Option T),sizeA x<=lnA x
 |[]=>by rw[sizeA,lnA];exact cw _|none::r=>by have:=uf r;rw[sizeA,lp,lnA];omega|some t::r=>by have:=uf r;have:=T.size_len t;rw[sizeA,lp,lnA];omega
end
mutual
def ui:T->Bool
 | .mk _ _ _ x=>decide (7<x.length)||uh x
def uh:List (Option T)->Bool
 |[]=>false|none::r=>uh r|some t::r=>ui t||uh r
end
section
variable {μ:Mu}
def kW {d r:List (Option T)}{x:Option T}:dr (bT (d++x::r)) (d.length:Int)=some (eQ x):=by rw[mG,ju bu,sk];rfl
def og {d r:List (Option T)}{x:Option T}:decide ((d.length:Int)<((d++x::r).length:Int))=true:=cr
def AN {d:List (Option T)}:decide ((d.length:Int)<((d++[]).length:Int))=false:=bG
def nF {α:Type}{d r:List α}{x:α}:d++x::r=(d++[x])++r:=bG
def gn {α:Type}{d:List α}{x:α}:(d++[x]).length=d.length+1:=bG
def ac4 {a b:Nat}(h:a+b<=1000000000):IntKind.wrap .i64 ((a:Int)+(b:Int))=((a+b:Nat):Int):=by rw[gA bu bu];omega
mutual
def X8: ∀t:T,t.len<=1000000->(ev E).call 96 [LV.cv t.cv] μ=some (.ret (bv (t.size:Int)) μ)
 | .mk k y s x,h=>by refine b8 ?_;rw[T.len]at h;have e:=JH x [] 1 bu cr;rw[oA,aew,eF];simp only[fb,cG]at e;have e0:((0:Nat):Int)=0:=rfl;have e1:((1:Nat):Int)=1:=rfl;rw[e0,e1]at e;rw[e,bA,Rf,T.size]
def JH: ∀(r d:List (Option T)) (n:Nat),n+lnA r<=1000000->d.length+lnA r<=1000000->HM (ev E) (n:Int) (bT (d++r)) ((d++r).length:Int) (d.length:Int) μ=some (Cq ((n+sizeA r:Nat):Int) μ)
 |[],d,n,h,h2=>dy (by rw[FG,AN,bW,sizeA];rfl)|none::r,d,n,h,h2=>by rw[lnA]at h h2;refine dy ?_;rw[FG,og,bY,kW,bA,gR,cL,nJ,bA,db,bW,gU bu,nF,<-gn (x:=(none:Option T)),JH r _ n bu (by rw[gn];omega),sizeA,lp,gC]|some t::r,d,n,h,h2=>by
  rw[lnA]at h h2;have:=T.size_len t;have hl: ∀t:T,1<=t.len:=λt=>by cases t;rw[T.len];omega
  have:=hl t;refine dy ?_;rw[FG,og,bY,kW,bA,gR,cL,dS,mm,bA,dF,bY,X8 t bu,bL,dH,bA,gU bu,ac4 bu,nF,<-gn (x:=some t),JH r _ (n+t.size) bu (by rw[gn];omega),sizeA,lp,F0]
end
def T.len_pos (t:T):1<=t.len:=by cases t;rw[T.len];omega
def Ux (a b:List Nd):ct (a++b)=ct a++ct b:=by simp[ct]
def izCV_app (a b:List Int):cJ (a++b)=cJ a++cJ b:=by simp[cJ]
def zF (a:List Nd):(ct a).length=a.length:=by simp[ct]
def CP: ∀l:List Nd,ee 4 (ct l)=true
 |[]=>rfl|x::r=>by have e:ct (x::r)=x.cv::ct r:=rfl;rw[e];simp only[ee];rw[show ga 4 x.cv=true from rfl];exact CP r
def FJ: ∀l:List Int,ee 1 (cJ l)=true
 |[]=>rfl|x::r=>by have e:cJ (x::r)=bD x::cJ r:=rfl;rw[e];simp only[ee];rw[show ga 1 (bD x)=true from rfl];exact FJ r
def LN (l:List Int):(cJ l).length=l.length:=by simp[cJ]
def NF {zs:List Int}{x:Int}(h:zs.length+1<=1000000):ef 1 (cJ zs) [bD x]=true:=rV (xs:=cJ zs) (ys:=[bD x]) (by rw[LN];exact h) (FJ _) (FJ [x])
mutual
def Vd: ∀(t:T) (out:List Nd),t.len+out.length<=1000000->bN E (ev E) 73 [LV.cv t.cv,LV.osl (ct out)] μ=some (.ret (LV.osl (ct (out++t.flat out.length))) μ)
 | .mk k y s x,out,h=>by rw[T.len]at h;have e:=JG x [] out [] k y s bu cr cr;have hl:=y7 out.length x;have:=uf x;have e0:((0:Nat):Int)=0:=rfl;have e1:cJ []=[]:=rfl;simp only[fb,cG,e0,e1]at e;rw[oA,aaV,eF,e,bA,Rd];have hn:[CV.agg [bD k,bD y,CV.str s,CV.sl (cJ (pb out.length x))]]=ct [⟨k,y,s,pb out.length x⟩]:=rfl;rw[hn,rV (by rw[zF,zF];simp;omega) (CP _) (CP _),cL,<-Ux,T.flat,eV]
def JG: ∀(r d:List (Option T)) (out:List Nd) (zs:List Int) (k y:Int) (s:List UInt8),out.length+lnA r<=1000000->d.length+lnA r<=1000000->zs.length+lnA r<=1000000->
 HL (ev E) (ct out) (bT (d++r)) ((d++r).length:Int) (d.length:Int) k y s (cJ zs) μ=some (Cp (ct (out++rD out.length r)) k y s (cJ (zs++pb out.length r)) μ)
 |[],d,out,zs,k,y,s,h,h2,h3=>dy (by rw[FF,AN,bW,rD,pb,eU,eU])|none::r,d,out,zs,k,y,s,h,h2,h3=>by
  rw[lnA]at h h2 h3;refine dy ?_;have e:cJ zs++[bD (-1)]=cJ (zs++[-1]):=by rw[izCV_app];rfl
  rw[FF,og,bY,kW,bA,gR,cL,nJ,bA,bY,NF bu,cL,gU bu,e,nF,<-gn (x:=(none:Option T)),JG r _ out _ k y s bu (by rw[gn];omega) (by rw[gn];omega),rD,Aw,lp,pb,eV];rfl
 |some t::r,d,out,zs,k,y,s,h,h2,h3=>by
  rw[lnA]at h h2 h3;have:=T.size_len t;have:=T.len_pos t;have hs:=T.flat_len out.length t;refine dy ?_;have hw:IntKind.wrap .i64 (((out++t.flat out.length).length:Int) -1)=((out.length+t.size:Nat):Int) -1:=by rw[cC,hs];exact gA bu bu
  have hG: ∀x7 x8:Int,XJ (ev E) (ct out) t.cv (bT (d++some t::r)) x7 x8 k y s (cJ zs) μ=some (Cg (ct (out++t.flat out.length)) (bT (d++some t::r)) x7 x8 k y s (cJ (zs++[((out.length+t.size:Nat):Int) -1])) μ):=λx7 x8=>by refine cm ?_;rw[Zr,b8 (Vd t out bu),bL,wS,bA,zF,hw,NF bu,cL,izCV_app];rfl
  rw[FF,og,bY,kW,bA,gR,cL,dS,mm,bA,bW,hG,bA,QW,gU bu,nF,<-gn (x:=some t),JG r _ _ _ k y s (by rw[cC,hs];omega) (by rw[gn];omega) (by rw[gn];omega)];rw[rD,Aw,lp,pb,eV,cC,hs,eV];rfl
end
def acN {ρ:Rho}{k y:Int}{s:List UInt8}{x:List CV}:bN E ρ 73 [LV.cv (CV.view [bD k,bD y,CV.str s,CV.sl x]),LV.cv (CV.v (.slice none 0 0))] μ=bN E ρ 73 [LV.cv (CV.view [bD k,bD y,CV.str s,CV.sl x]),LV.osl []] μ:=by rw[aaV];kernel_rfl
def acP {ρ:Rho}:bN E ρ 98 [LV.cv (CV.v (.pointer none))] μ=some (.ret (LV.bool false) μ):=bx
mutual
def X5: ∀t:T,t.len<=1000000->(ev E).call 58 [LV.cv t.cv] μ=some (.ret (LV.bool (ui t)) μ)
 | .mk k y s x,h=>by
  refine b8 ?_;rw[T.len]at h;obtain⟨j,hj,e⟩:=FD x [] cr;have e0:((0:Nat):Int)=0:=rfl;simp only[fb,cG,e0]at e;rw[oA,aeh,eF,ui];by_cases hx:7<x.length
  ·rw[cu bu,cu hx];rfl
  ·have h140:(ev E).call 140 [LV.cv (CV.sl (bT x)),LV.cv (CV.clo 98 [])] μ=some (.ret (bv j) μ):=b8 (by rw[acg,eF,e]);have h97:(ev E).call 97 [LV.cv (CV.sl (bT x)),LV.cv (CV.clo 98 [])] μ=some (.ret (LV.bool (decide (0<=j))) μ):=b8 (by rw[aex,h140];rfl);rw[cE bu,cE hx,bW,h97,hj];rfl
def FD: ∀(r d:List (Option T)),d.length+lnA r<=1000000-> ∃j:Int,decide (0<=j)=uh r/\
 opt (ss (ev E) (bT (d++r)) 98 ((d++r).length:Int) (d.length:Int) μ) (kB (ev E) 140 Fa [.block 0,.seq (cN 140 7)])=some (.ret (bv j) μ)
 | [], d, h => ⟨-1, by rw [uh]; rfl, by
  have:ss (ev E) (bT (d++[])) 98 ((d++[]).length:Int) (d.length:Int) μ=some (yM μ):=dy (by rw[xb,AN,bW])
  rw[this,bA,MX]⟩
 |none::r,d,h=>by
  rw[lnA]at h;obtain⟨j,hj,e⟩:=FD r (d++[none]) (by rw[gn];omega);refine⟨j,by rw[hj,uh],?_⟩;have h98:(ev E).call 98 [LV.cv (eQ none)] μ=some (.ret (LV.bool false) μ):=b8 (by rw[ip,acP]);obtain⟨s,h1,h2⟩:=cK e;have:ss (ev E) (bT (d++none::r)) 98 ((d++none::r).length:Int) (d.length:Int) μ=some s:=by refine dy ?_;rw[xb,og,bY,kW,bA,gR,cL,h98,bL,da,bA,bW,gU bu,nF,<-gn (x:=(none:Option T)),h1]
  rw[this,bA,h2]
 |some t::r,d,h=>by
  rw[lnA]at h;have:=T.len_pos t
  have h98 : (ev E).call 98 [LV.cv (eQ (some t))] μ = some (.ret (LV.bool (ui t)) μ) := b8 (by
   have:=X5 t bu;rw[dS];rw[na]at this |-;rw[aey,this]
   rfl)
  cases hw:ui t with
  |true=>
   refine⟨d.length,by rw[uh,hw];simp,?_⟩;have:ss (ev E) (bT (d++some t::r)) 98 ((d++some t::r).length:Int) (d.length:Int) μ=some (yL (d.length:Int) μ):=by refine dy ?_;rw[xb,og,bY,kW,bA,gR,cL,h98,bL,da,bA,hw,bY]
   rw[this,bA,MW]
  |false=>
   obtain⟨j,hj,e⟩:=FD r (d++[some t]) (by rw[gn];omega);refine⟨j,by rw[hj,uh,hw];rfl,?_⟩;obtain⟨s,h1,h2⟩:=cK e;have:ss (ev E) (bT (d++some t::r)) 98 ((d++some t::r).length:Int) (d.length:Int) μ=some s:=by refine dy ?_;rw[xb,og,bY,kW,bA,gR,cL,h98,bL,da,bA,hw,bW,gU bu,nF,<-gn (x:=some t),h1]
   rw[this,bA,h2]
end
def abS {t:T}(h:t.len<=1000000):(ev E).call 57 [LV.cv t.cv] μ=some (.ret (if 120<t.size then LV.ltup [LV.cv (CV.v (.slice none 0 0)),bv 8]else LV.ltup [LV.cv (CV.sl (ct (t.flat 0))),bv 0]) μ):=by
 refine b8 ?_;have h1:=X8 (μ:=μ) t h
 have h3 : (ev E).call 73 [LV.cv t.cv, LV.cv (CV.v (.slice none 0 0))] μ = some (.ret (LV.osl (ct (t.flat 0))) μ) := b8 (by
  have h2:=Vd (μ:=μ) t [] (by simpa using h);rw[na]at h2 |-;rw[acN]
  exact h2)
 rw[na]at h1 h3 |-;rw[aeg,h1,bL,dH,bA,h3];by_cases hx:120<t.size
 ·rw[cu bu,bK hx];rfl
 ·rw[cE bu,bE hx];rfl
def abR {lv i:Nat}{l:List Tok}(h:Rdr μ lv i l 0):cg μ lv i l (qN l) (λt μ=> .ret (.ltup [LV.cv t.cv,bv 0]) μ) (λμ=> .ret (.ltup [LV.cv (CV.v (.pointer none)),bv 7]) μ) ((ev E).call 56 [LV.cv (CV.ref lv i 0)] μ):=by
 have hw:=te (zK (24*l.length+20)) h (qN l) (by rw[jx];exact KO l);have h2:cg μ lv i l (qN l) (λt μ=> .ret (.ltup [LV.cv t.cv,bv 0]) μ) (λμ=> .ret (.ltup [LV.cv (CV.v (.pointer none)),bv 7]) μ) (bN E (ev E) 56 [LV.cv (CV.ref lv i 0)] μ):=by
  rw[aef,nX];refine cg.opt hw (λt μ'=> ?_) (λμ'=> ?_)
  ·have hd:(ev E).dcall 94 none [LV.cv (CV.ref μ'.length 0 0),LV.cv (CV.ref μ'.length 1 0)] (μ'++[[Ob.cells [LV.cv t.cv],Ob.cells [bv 0]]])=some (μ'++[[Ob.cells [LV.cv t.cv],Ob.cells [bv 0]]]):=sN (by rw[aaW]);have r1: ∀c:CV,cD E.P 91 (.cells [LV.cv c]) 0=some (LV.cv c):=λc=>by kernel_rfl
   unfold eH;rw[bL,fZ,bA,eN,cL,hd,bA,dM,bA];show opt (opt (cD E.P 91 (.cells [LV.cv t.cv]) 0) _) _=_;rw[r1,bA];have hb:below μ'.length t.cv=true:=Ar t;have hf:mJ (eB [LV.cv t.cv,bv 0])=true:=by rw[na];rfl
   have hr:fj μ'.length (eB [LV.cv t.cv,bv 0])=true:=by show (below μ'.length t.cv&&_)=true;rw[hb];rfl
   show bB (mJ (eB [LV.cv t.cv,bv 0])) (bB (fj μ'.length (eB [LV.cv t.cv,bv 0])) _)=_;rw[hf,hr];rfl
  ·have hd:(ev E).dcall 94 (some fF) [LV.cv (CV.ref μ'.length 0 0),LV.cv (CV.ref μ'.length 1 0)] (μ'++[[Ob.cells [LV.cv (CV.v (.pointer none))],Ob.cells [bv 0]]])=some (μ'++[[Ob.cells [LV.cv (CV.v (.pointer none))],Ob.cells [bv 7]]]):=by
    refine sN ?_;unfold fF;have w1: ∀a:LV,du E.P 91 (.cells [a]) 0 (LV.cv (CV.v (.pointer none)))=some (.cells [LV.cv (CV.v (.pointer none))]):=λa=>by kernel_rfl
    have w2: ∀a:LV,du E.P 25 (.cells [a]) 0 (bv 7)=some (.cells [bv 7]):=λa=>by kernel_rfl
    rw[aaX,lQ rfl];show opt (du E.P 91 (.cells [LV.cv (CV.v (.pointer none))]) 0 _) _=_;rw[w1,bA,mv rfl,lQ rfl];show opt (du E.P 25 (.cells [bv 0]) 0 _) _=_;rw[w2,bA,mv rfl];rfl
   unfold hJ;rw[d5,hd,bA,dM,bA];rfl
 exact h2.imp λr hr=>b8 hr
def fA (l:List Tok):List Nd×Int×Int:=
 if(rG l).2≠0 then([],0,(rG l).2)else
 if l=[]then([],0,17)else
 match qN l with
 |none=>([],0,7)|some (t,r)=>if 120<t.size\/ui t=true then([],0,8)else(t.flat 0,((l.length-r.length:Nat):Int),0)
def Ds {m:Nat}: ∀l:List Int,dl m (cJ l)=true
 |[]=>rfl|x::r=>by have e:cJ (x::r)=bD x::cJ r:=rfl;rw[e];simp only[dl,below,Ds r]
def Bp {m:Nat}: ∀l:List Nd,dl m (ct l)=true
 |[]=>rfl|x::r=>by have e:ct (x::r)=CV.agg [bD x.kind,bD x.typ,CV.str x.text,CV.sl (cJ x.args)]::ct r:=rfl;rw[e];simp only[dl,below,Ds,Bp r]
def Hs {l:List Tok}(hl:l.length<=100000)(hs: ∀t∈l,t.text.length<=200000): ∀(k i:Nat),i+k=l.length->
 PJ (ev E) (cj l) (cj l) (l.length:Int) (i:Int) μ=some (if(CA i (l.drop i)).2=0 then ww (cj l) μ else wv [] 0 (CA i (l.drop i)).2 μ)
 | 0, i, h => dy (by
  rw[O1,cE bu,bW,gX bu,CA,bK rfl])
 |k+1,i,h=>by
  have hi:i<l.length:=bu;refine dy ?_;have h55:=X4 (μ:=μ) (t:=l[i]) (hs _ (q7 hi));have e: ∀t:Tok,CV.agg [bD t.kind,bD t.type,CV.str t.text]=t.cv:=λ_=>rfl;rw[O1,cu bu,bY,abq hi,bA,xj,e,h55,bL,dH,bA,iM hi,CA];by_cases hc:uS l[i]=0
  ·rw[cu hc,bK hc,db,bW,gU bu];exact Hs hl hs k (i+1) bu
  ·rw[cE hc,bE hc,dF,bY,bE hc]
def Xy {e:List Nd}{n c:Int}{o:List CV}{m:Int}:kB (ev E) 18 H18 [] (B7 (ct e) n c o m μ)=some (.ret (.ltup [LV.cv (CV.sl (ct e)),bv n,bv c]) μ):=by
 rw[QG];have:fj (List.length μ) (LV.ltup [LV.cv (CV.sl (ct e)),bv n,bv c])=true:=by show (dl _ (ct e)&&_)=true;rw[Bp];rfl
 rw[this,cL]
def abM {l:List Tok}(hl:l.length<=100000)(hs: ∀t∈l,t.text.length<=200000): ∃v,cR v=some (ct (fA l).1)/\(ev E).call 18 [LV.cv (CV.sl (cj l))] μ=some (.ret (.ltup [v,bv (fA l).2.1,bv (fA l).2.2]) μ):=by
 by_cases h3:300<l.length
 ·have e:fA l=([],0,8):=by unfold fA rG;rw[bK h3];rfl
  rw[e];refine⟨LV.cv (CV.v (.slice none 0 0)),rfl,b8 ?_⟩;rw[aaT,s8,cu bu,bY]
 refine⟨LV.cv (CV.sl (ct (fA l).1)),rfl,b8 ?_⟩;rw[aaT,s8,cE bu,bW];have hL:=Hs (μ:=μ) hl hs l.length 0 bu;have hE:rG l=CA 0 l:=by unfold rG;rw[bE h3]
 rw[jx,<-hE]at hL;have e0:((0:Nat):Int)=0:=rfl;rw[e0]at hL;have hG: ∀st,(∀s',(if(rG l).2=0 then ww (cj l) μ else wv [] 0 (rG l).2 μ)=s'->kS (ev E) H18 [.block 0,.seq (cN 18 15)] [(2,2),(3,0),(4,0)] s'=some st)->C5 (ev E) (cj l) μ=some st:=λst h=>cm (by rw[Zj,s8,hL,bA];exact h _ rfl);unfold fA;by_cases hc:(rG l).2=0
 ·rw[bE (by simpa using hc)];by_cases hn:l=[]
  ·rw[bK hn]
   rw [hG (sA [] 0 17 μ) (λs' h => by
    rw[<-h,bK hc,Ec,s8,cu (by rw[hn];rfl),bY]),bA,Ea]
   rfl
  ·rw[bE hn];have hpos:0<l.length:=AT.2 hn;have hR:Rdr (μ++[[rO l 0]]) μ.length 0 l 0:=⟨cV,vI _,hl,bG⟩;have hA:=abR hR;have hrs: ∀n,rS (μ++[[rO l 0]]) μ.length 0 l n=μ++[[rO l n]]:=λn=>od;have ho: ∀n:Nat,rO l n=Ob.cells [LV.cv (CV.sl (cj l)),bv (n:Int)]:=λ_=>rfl
   have h12 : ∀ st, Ij (ev E) (cj l) μ = some st -> ∀ st', kS (ev E) H18 [] [(2, 2), (3, 0), (4, 0)] st = some st' -> C5 (ev E) (cj l) μ = some st' := λst hst st' h => hG st' (λs' h' => by
    rw[<-h',bK hc,Ec,s8,cE bu,bW,hst,bA,h])
   have fin: ∀(e:List Nd) (n c:Int) (o:List CV) (m:Int),Ij (ev E) (cj l) μ=some (yl (ct e) n c o m μ)->opt (C5 (ev E) (cj l) μ) (kB (ev E) 18 H18 [])=some (.ret (.ltup [LV.cv (CV.sl (ct e)),bv n,bv c]) μ):=λe n c o m h=>by rw[h12 _ h _ (Mm _ _ _ _ _ _ _),bA,Xy]
   have hB:μ++[[Ob.cells [LV.cv (CV.sl (cj l)),bv 0]]]=μ++[[rO l 0]]:=rfl;unfold cg at hA;cases hp:qN l with
   |none=>rw[hp]at hA;obtain⟨n,hx⟩:=hA;refine fin [] 0 7 (cj l) (n:Int) (cm ?_);have h14:C3 (ev E) (CV.v (.pointer none)) 7 [rO l n] μ=some (qr [] 0 7 (cj l) (n:Int) μ):=cm (by rw[ho,JR];rfl);rw[JQ,hB,hx,hrs];simp only[bU,dM];show opt (C3 (ev E) (CV.v (.pointer none)) 7 [rO l n] μ) _=_;rw[h14,bA,BA];rfl
   |some q=>
    obtain⟨t,r⟩:=q;rw[hp]at hA;obtain⟨n,hr,hn2,hx⟩:=hA;dsimp only at hr hx;have hlen:=UM hp;have hnn:l.length-r.length=n:=by rw[hr,gZ];omega
    dsimp only;rw[hnn];have out: ∀(e:List Nd) (m c:Int),Ik (ev E) t.cv [rO l n] μ=some (tE (ct e) m c (cj l) (n:Int) μ)->opt (C5 (ev E) (cj l) μ) (kB (ev E) 18 H18 [])=some (.ret (.ltup [LV.cv (CV.sl (ct e)),bv m,bv c]) μ):=λe m c h=>by
     refine fin e m c (cj l) (n:Int) (cm ?_)
     have h14 : C3 (ev E) t.cv 0 [rO l n] μ = some (qr (ct e) m c (cj l) (n : Int) μ) := cm (by
      rw[ho,JR,<-ho,h,bA,Mn]
      rfl)
     rw[JQ,hB,hx,hrs];simp only[bU,dM,fZ];rw[h14,bA,BA]
    have h57:=abS (μ:=μ++[[rO l n]]) (t:=t) bu
    have h16 : ∀ (e : List Nd) (m c c0 : Int) (ns : List CV), (ev E).call 57 [LV.cv t.cv] (μ ++ [[rO l n]]) = some (.ret (.ltup [LV.cv (CV.sl ns), bv c0]) (μ ++ [[rO l n]])) -> C4 (ev E) t.cv c0 ns [rO l n] μ = some (qt (ct e) m c (cj l) (n : Int) μ) -> Ik (ev E) t.cv [rO l n] μ = some (tE (ct e) m c (cj l) (n : Int) μ) := λe m c c0 ns h h17 => cm (by
     rw[ho,JS,<-ho,h];simp only[bU,dM]
     rw[h17,bA,BB])
    have h17t: ∀(ns:List CV),uF (ev E) ns true [rO l n] μ=some (ym [] 0 8 (cj l) (n:Int) μ):=λns=>cm (by rw[ho,JT];rfl);by_cases hz:120<t.size
    ·rw[bK (.inl hz)];rw[bK hz]at h57;refine out [] 0 8 (cm ?_)
     have h17 : C4 (ev E) t.cv 8 [] [rO l n] μ = some (qt [] 0 8 (cj l) (n : Int) μ) := cm (by
      rw[ho,CM,<-ho,show (!decide ((8:Int)=0))=true from rfl,bY,h17t,bA,BC])
     rw[ho,JS,<-ho,h57];simp only[bU,dM];show opt (C4 (ev E) t.cv 8 [] [rO l n] μ) _=_;rw[h17,bA,BB];rfl
    ·rw[bE hz]at h57;have h58:=X5 (μ:=μ++[[rO l n]]) t bu;by_cases hw:ui t=true
     ·rw[bK (.inr hw)];refine out [] 0 8 (h16 [] 0 8 0 _ h57 (cm ?_));rw[ho,CM,<-ho,h58];simp only[bU,dM,hw];show cond (!decide ((0:Int)=0)) _ _=_;rw[show decide ((0:Int)=0)=true from rfl,db,bW];show opt (uF (ev E) _ true [rO l n] μ) _=_;rw[h17t,bA,BC];rfl
     ·rw[bE (by simp[hz,hw])];refine out (t.flat 0) n 0 (h16 _ _ 0 0 _ h57 (cm ?_));have hf:ui t=false:=by simpa using hw
      have h18: ∀(ns:List CV),uF (ev E) ns false [rO l n] μ=some (yn ns (cj l) (n:Int) μ):=λns=>cm (by rw[ho,JT];rfl);have h19: ∀(ns:List CV),RS (ev E) ns [rO l n] μ=some (yo ns (n:Int) 0 (cj l) (n:Int) μ):=λns=>cm (by rw[ho,WM]);rw[ho,CM,<-ho,h58];simp only[bU,dM,hf];show cond (!decide ((0:Int)=0)) _ _=_;rw[show decide ((0:Int)=0)=true from rfl,db,bW];show opt (uF (ev E) _ false [rO l n] μ) _=_;rw[h18,bA,Mo,<-ho,h19,bA,Mp]
 ·rw[bK hc,hG (sA [] 0 (rG l).2 μ) (λs' h=>by rw[<-h,bE hc,Q4]),bA,Ea];rfl
end
def okB (lv i:Nat)(a:CV):Prop:=a=aa1\/a=CV.ref lv i 0
def okX (bs:List UInt8)(x:LV):Prop:=x=LV.osl (dg bs)\/(x=zE/\bs=[])
def bX (a:CV)(x:LV):Ob:= .cells [LV.cv a,x]
def BS (μ:Mu)(lv i:Nat)(bs:List UInt8):Prop:= ∃a x,okB lv i a/\okX bs x/\b7 μ lv i=bX a x
def BW (μ:Mu)(lv i:Nat)(bs:List UInt8)(μ':Mu):Prop:= ∃a x,okB lv i a/\okX bs x/\μ'=cq μ lv i (bX a x)
section
variable {μ μ':Mu}{lv i:Nat}{bs:List UInt8}{a:CV}
def BW.to (h:BW μ lv i bs μ'){b0:List UInt8}(h0:BS μ lv i b0):BS μ' lv i bs:=by obtain⟨a,x,ha,hx,rfl⟩:=h;obtain⟨c,y,hc,hy,ho⟩:=h0;exact⟨a,x,ha,hx,by rw[nI (by rw[ho];trivial),bK ⟨rfl,rfl⟩]⟩
def BW.trans {μ2:Mu}{b2:List UInt8}(h:BW μ lv i bs μ')(h2:BW μ' lv i b2 μ2):BW μ lv i b2 μ2:=by obtain⟨a,x,ha,hx,rfl⟩:=h;obtain⟨c,y,hc,hy,rfl⟩:=h2;exact⟨c,y,hc,hy,jP⟩
def BW.self (h:BS μ lv i bs):BW μ lv i bs μ:=by obtain⟨a,x,ha,hx,ho⟩:=h;exact⟨a,x,ha,hx,(w9 ho trivial).symm⟩
def BS.lt (h:BS μ lv i bs):lv<μ.length:=by obtain⟨a,x,ha,hx,ho⟩:=h;exact(OV (by rw[ho];trivial)).1
def BS.push {x:Lam}(h:BS μ lv i bs):BS (μ++[x]) lv i bs:=by have hl:=h.lt;obtain⟨a,y,ha,hx,ho⟩:=h;exact⟨a,y,ha,hx,by rw[cS hl];exact ho⟩
def BW.pop {x:Lam}{ν:Mu}(hl:lv<μ.length)(h:BW (μ++[x]) lv i bs ν): ∃μ2,ν=μ2++[x]/\BW μ lv i bs μ2:=by obtain⟨a,y,ha,hx,rfl⟩:=h;exact⟨_,kV hl,a,y,ha,hx,rfl⟩
def BW.other {b0:List UInt8}(h:BW μ lv i bs μ')(h0:BS μ lv i b0){l j:Nat}(hne: ¬(l=lv/\j=i)):b7 μ' l j=b7 μ l j:=by obtain⟨a,x,ha,hx,rfl⟩:=h;obtain⟨c,y,hc,hy,ho⟩:=h0;rw[nI (by rw[ho];trivial),bE hne]
def SN (h:BS μ lv i bs): ∃x,okX bs x/\(ev E).call 153 [LV.cv (CV.tref lv i 130 2)] μ=some (.ret (.ltup []) (cq μ lv i (bX (CV.ref lv i 0) x)))/\ ∀o,b7 (cq μ lv i o) lv i=o:=by
 obtain⟨a,x,ha,hx,ho⟩:=h;refine⟨x,hx,gy (g:=mX 130) bx ?_,λo=>by rw[nI (by rw[ho];trivial),bK ⟨rfl,rfl⟩]⟩;rcases ha with rfl|rfl
 ·unfold mX;simp only[dW,bA,cT];rw[ho];rfl
 ·unfold mX;simp only[dW,bA,cT];rw[w9 ho trivial,ho];unfold bX;simp only;have:(Nat.beq lv lv&&Nat.beq i i)=true:=by rw[pn,pn];rfl
  rw[this,cL];rfl
def Lb {y x:LV}(hx:okX bs x): ∃z w,gh E.P 128 (.cells [y,x]) 1=some (z,.cells [y,w])/\gv z=some (dg bs)/\ ∀v,du E.P 128 (.cells [y,w]) 1 (LV.osl v)=some (.cells [y,LV.osl v]):=by
 rcases hx with rfl|⟨rfl,rfl⟩
 ·exact⟨_,_,ac1,rfl,λv=>by kernel_rfl⟩
 ·exact⟨zE,zE,bx,rfl,λv=>by kernel_rfl⟩
def pC (h:BS μ lv i bs){c:UInt8}(hs:bs.length<=1000000): ∃μ',BW μ lv i (bs++[c]) μ'/\(ev E).call 130 [LV.cv (CV.tref lv i 130 2),LV.int .u8 (c.toNat:Int)] μ=some (.ret (LV.cv (CV.v .nilIface)) μ'):=by refine⟨_,⟨CV.ref lv i 0,_,.inr rfl,.inl rfl,rfl⟩,b8 ?_⟩;have hc:[CV.int .u8 (c.toNat:Int)]=dg [c]:=rfl;obtain⟨x,hx,e,hob⟩:=SN h;rw[aca,e];simp only[bU];rw[hob];unfold bX;obtain⟨z,w,h1,h2,h3⟩:=Lb (y:=LV.cv (CV.ref lv i 0)) hx;rw[h1,bA];simp only;rw[h2,bA];rw[hc,Bk cr,cL,<-uo,sH,cL,jP,hob,h3,bA,jP]
def Dx (h:BS μ lv i bs){s:List UInt8}(hs:bs.length<=1000000)(hs2:s.length<=1000000): ∃μ',BW μ lv i (bs++s) μ'/\(ev E).call 129 [LV.cv (CV.tref lv i 130 2),LV.str s] μ=some (.ret (.ltup [bv (s.length:Int),LV.cv (CV.v .nilIface)]) μ'):=by
 refine⟨_,⟨CV.ref lv i 0,_,.inr rfl,.inl rfl,rfl⟩,b8 ?_⟩;obtain⟨x,hx,e,hob⟩:=SN h;rw[ab9,e];simp only[bU];rw[hob];unfold bX;obtain⟨z,w,h1,h2,h3⟩:=Lb (y:=LV.cv (CV.ref lv i 0)) hx;rw[h1,bA];simp only;rw[h2,bA];have:((Nat.beq 1 1&&small (List.length (dg bs)+List.length s))&&ee 1 (dg bs))=true:=by rw[p8,fC bu,nw];rfl
 rw[this,cL,<-uo,sH,cL,jP,hob,h3,bA,jP]
end
def nz (c:UInt8):Bool->List (Option (List UInt8))->List UInt8
 |_,[]=>[]|f,o::r=>(if f then []else [c])++(o.getD []++nz c false r)
def y9 (P:List (Option (List UInt8)))(n:Nat):List UInt8:=match P[n]? with|some (some s)=>s|_=>[]
def P3 (br:Bool)(k:Int)(s:List UInt8)(P Q:List (Option (List UInt8))):List UInt8:=
 if k=2 then s++[40]++nz 44 true Q++[41]
 else if k=3 then nz 58 true (if Q[2]? =some none then Q.take 2 else Q)
 else if k=4 then [40]++nz 44 true Q++[41]
 else if k=5 then [40]++y9 P 0++[41]
 else if P=[]then s
 else(if br then [91]else [])++(if P.length=2 then y9 P 0 else [])++cz k++y9 P (P.length-1)++(if br then [93]else [])
mutual
def prT (br:Bool):T->List UInt8
 | .mk k _ s x=>P3 br k s (prA br x) (prA false x)
def prA (br:Bool):List (Option T)->List (Option (List UInt8))
 |[]=>[]|none::r=>none::prA br r|some t::r=>some (prT br t)::prA br r
end
def abn (k : Int) (x : List (Option T)) : Bool := decide (0 <= k) && (decide (k < 25) && (if k = 2 \/ k = 4 then true else if k = 3 then decide (x.length = 3) else match x with
 |[]=>decide (k≠5)|[some _]=>true|[some _,some _]=>decide (k≠5)
 |_=>false))
mutual
def FN:T->Bool
 | .mk k _ _ x=>abn k x&&AG x
def AG:List (Option T)->Bool
 |[]=>true|none::r=>AG r|some t::r=>FN t&&AG r
end
def zM: ∀{x:List (Option T)},AG x=true-> ∀t,some t∈x->FN t=true
 |[],h,t,ht=>by simp at ht|none::r,h,t,ht=>by
  rw[AG]at h;rcases eE.1 ht with e|ht
  ·cases e
  ·exact zM h t ht
 |some u::r,h,t,ht=>by
  rw[AG,cM]at h;rcases eE.1 ht with e|ht
  ·injection e with e;subst e;exact h.1
  ·exact zM h.2 t ht
def AC: ∀{x:List (Option T)} {t:T},some t∈x->t.len<=lnA x
 |[],t,ht=>by simp at ht|none::r,t,ht=>by
  rw[lnA];rcases eE.1 ht with e|ht
  ·cases e
  ·have:=AC ht;omega
 |some u::r,t,ht=>by
  rw[lnA];rcases eE.1 ht with e|ht
  ·injection e with e;subst e;omega
  ·have:=AC ht;omega
def Qm {c:UInt8}{f:Bool}{o:Option (List UInt8)}{r:List (Option (List UInt8))}:nz c f (o::r)=(if f then []else [c])++(o.getD []++nz c false r):=by rw[nz]
def PrT (br:Bool)(t:T):Prop:= ∀(μ:Mu) (lv i:Nat) (bs:List UInt8),BS μ lv i bs->bs.length+(prT br t).length<=1000000->
 ∃μ',BW μ lv i (bs++prT br t) μ'/\(ev E).call 87 [LV.cv t.cv,LV.cv (CV.tref lv i 130 2),LV.bool br] μ=some (.ret (.ltup []) μ')
def Yn {a:LV}:cD E.P 127 (.cells [a]) 0=some (strip a):=bx
def Pa {lv i cl:Nat}{c:UInt8}{r0:Lam}: ∀(r d:List (Option T)) (μ:Mu) (bs:List UInt8),(∀t,some t∈r->PrT false t)->lv<cl->BS μ lv i bs->b7 μ cl 0= .cells [LV.cv (CV.tref lv i 130 2)]->d.length+r.length<=1000000->
 bs.length+(nz c (d.isEmpty) (prA false r)).length<=1000000-> ∃μ',BW μ lv i (bs++nz c (d.isEmpty) (prA false r)) μ'/\qp (ev E) [c] cl 0 (bT (d++r)) ((d++r).length:Int) (d.length:Int) μ=some (yK μ')
 |[],d,μ,bs,hr,hl,hb,hc,hd,hz=>by refine⟨μ,?_,dy (by rw[J2,AN,bW])⟩;rw[prA,nz,eU];exact BW.self hb|o::r,d,μ,bs,hr,hl,hb,hc,hd,hz=>by
  have es:strip (LV.cv (CV.tref lv i 130 2))=LV.cv (CV.tref lv i 130 2):=rfl;have gs: ∀c:CV,cx (LV.cv c)=some c:=λ_=>rfl;have hpr:prA false (o::r)=(o.map (prT false))::prA false r:=by cases o<;>rw[prA]<;>rfl
  rw[hpr,Qm]at hz |-;simp only[cC]at hz;obtain⟨μ1,hw1,e1⟩: ∃μ1,BW μ lv i (bs++(if d.isEmpty then []else [c])) μ1/\ ∀(F:Mu->Option St) (G:CV->Mu->Option St),
   (cond (decide ((0:Int)<(d.length:Int))) (opt (cD E.P 127 (b7 μ cl 0) 0) λv2=>opt (cx v2) λc3=>callK ((ev E).call 129 [LV.cv c3,LV.str [c]] μ) (λv4 μ5=>opt (b9 v4) λxs8=>opt (bC xs8) λq9=>opt (bI .i64 q9.1) λn10=>opt (bC q9.2) λq11=>opt (cx q11.1) λc12=>opt (bS q11.2) λu13=>F μ5) G) (F μ))=F μ1:=by
   cases d with
   |nil=>exact⟨μ,by simpa using BW.self hb,λF G=>rfl⟩|cons y ys=>obtain⟨μ1,h1,h2⟩:=Dx hb (s:=[c]) (by simp at hz;omega) bG;refine⟨μ1,by simpa using h1,λF G=> ?_⟩;rw[cu (show (0:Int)<((y::ys).length:Int)by simp),bY,hc,Yn,es,bA,gs,bA,h2,bL];simp only[d9,bA,dW,dH,gs,cT]
  have hb1:=hw1.to hb;have hne: ¬(cl=lv/\0=i):=λe=>by omega
  have hc1:b7 μ1 cl 0= .cells [LV.cv (CV.tref lv i 130 2)]:=by rw[hw1.other hb hne,hc]
  obtain⟨μ2,hw2,e2⟩: ∃μ2,BW μ1 lv i (bs++(if d.isEmpty then []else [c])++(o.map (prT false)).getD []) μ2/\ ∀(F:Mu->Option St) (G:CV->Mu->Option St),
   (opt (jl (LV.cv (eQ o))) λb14=>cond (!b14) (opt (cD E.P 127 (b7 μ1 cl 0) 0) λv15=>opt (cx v15) λc16=>callK ((ev E).call 87 [LV.cv (eQ o),LV.cv c16,LV.bool false] μ1) (λv17 μ18=>opt (b9 v17) λxs21=>opt (bS xs21) λu22=>F μ18) G) (F μ1))=F μ2:=by
   cases o with
   |none=>exact⟨μ1,by simpa using BW.self hb1,λF G=>by rw[nJ,bA];rfl⟩|some t=>obtain⟨μ2,h1,h2⟩:=hr t bG μ1 lv i _ hb1 (by simp at hz |-; omega);refine⟨μ2,h1,λF G=> ?_⟩;rw[dS,mm,bA,dF,bY,hc1,Yn,es,bA,gs,bA,h2,bL];simp only[d9,bA,cT]
  have hb2:=hw2.to hb1;have hc2:b7 μ2 cl 0= .cells [LV.cv (CV.tref lv i 130 2)]:=by rw[hw2.other hb1 hne,hc1]
  have hsn:(d++[o]).isEmpty=false:=by cases d<;>rfl
  obtain⟨μ3,hw3,e3⟩:=Pa (c:=c) (r0:=r0) r (d++[o]) μ2 _ (λt ht=>hr t (by simp[ht])) hl hb2 hc2 (by simp at hd |-; omega) (by rw[hsn];simp at hz |-; omega);rw[hsn]at hw3;refine⟨μ3,?_,dy ?_⟩
  ·have:=(hw1.trans hw2).trans hw3;simpa[eV]using this
  ·rw[J2,og,bY,kW,bA,gR,cL];have key:=e1 (λν=>opt (jl (LV.cv (eQ o))) λb14=>cond (!b14) (opt (cD E.P 127 (b7 ν cl 0) 0) λv15=>opt (cx v15) λc16=>callK ((ev E).call 87 [LV.cv (eQ o),LV.cv c16,LV.bool false] ν) (λv17 μ18=>opt (b9 v17) λxs21=>opt (bS xs21) λu22=>qp (ev E) [c] cl 0 (bT (d++o::r)) ((d++o::r).length:Int) (IntKind.wrap .i64 ((d.length:Int)+1)) μ18) (pX qz)) (qp (ev E) [c] cl 0 (bT (d++o::r)) ((d++o::r).length:Int) (IntKind.wrap .i64 ((d.length:Int)+1)) ν)) (pX qz);rw[key,e2,gU (by simp at hd;omega),nF,<-gn (x:=o),e3]
def uv: ∀z:List (Option T),z.length<=lnA z
 |[]=>vI _|none::r=>by have:=uv r;rw[lnA];simp;omega|some t::r=>by have:=uv r;have:=T.len_pos t;rw[lnA];simp;omega
def AH {lv i:Nat}{c:UInt8}{μ:Mu}{bs:List UInt8}{x:List (Option T)}{o:Ob}(hx: ∀t,some t∈x->PrT false t)(hb:BS μ lv i bs)(hl:x.length<=1000000)(hz:bs.length+(nz c true (prA false x)).length<=1000000):
 ∃μ',BW μ lv i (bs++nz c true (prA false x)) μ'/\(ev E).call 128 [LV.str [c],LV.cv (CV.sl (bT x)),LV.cv (CV.ref μ.length 0 0)] (μ++[[Ob.cells [LV.cv (CV.tref lv i 130 2)],o]])=some (.ret (.ltup []) (μ'++[[Ob.cells [LV.cv (CV.tref lv i 130 2)],o]])):=by
 have hlt:=hb.lt;obtain⟨ν,hw,e⟩:=Pa (c:=c) (cl:=μ.length) (r0:=[]) x [] (μ++[[Ob.cells [LV.cv (CV.tref lv i 130 2)],o]]) bs hx hlt hb.push cV (by simpa using hl) hz;obtain⟨μ',rfl,hw'⟩:=hw.pop hlt;have e0:(([]:List (Option T)).length:Int)=0:=rfl;rw[fb,e0]at e;exact⟨μ',hw',b8 (by rw[ab8,eF,e,bA,MV])⟩
abbrev shO (k:Int):Ob:=Ob.cells [bv (lvl k),bv (oX k),bv (mV k),LV.cv (CV.sl (cJ (jR k))),LV.str (cz k)]
theorem Yh {α:Type}{x:CV}{o:Ob}{k:Lam->Option α}:kE [(0,[3])] [Ob.cells [LV.cv x],o] k=k [Ob.cells [LV.cv x],o]:=rfl
section
variable {lv i:Nat}{k y:Int}{s:List UInt8}{br:Bool}{o1 o2 o3:Int}{l4:List CV}{s5:List UInt8}{μ:Mu}{bs:List UInt8}
def aa5 {xs:List CV}{t:T}(hx:dr xs (IntKind.wrap .i64 ((List.length xs:Int) -(1:Int)))=some t.cv)(ht:PrT br t)(hb:BS μ lv i bs)(h5:s5.length<=1000)(hz:(bs++s5++prT br t).length<=1000000):
 ∃μ',BW μ lv i (bs++s5++prT br t++(if br then [93]else [])) μ'/\Iq (ev E) k y s xs br lv i o1 o2 o3 l4 s5 μ=some (tJ μ'):=by
 have gs: ∀c:CV,cx (LV.cv c)=some c:=λ_=>rfl;simp only[cC]at hz;obtain⟨μ1,w1,q1⟩:=Dx hb (s:=s5) bu bu;have b1:=w1.to hb;obtain⟨μ2,w2,q2⟩:=ht μ1 lv i _ b1 cr;have b2:=w2.to b1;cases br with
 |false=>refine⟨μ2,by simpa[eV]using w1.trans w2,cm ?_⟩;rw[JX,q1,bL];simp only[d9,bA,dW,dH,gs,cT];rw[hx,bA,eN,cL,q2,bL];simp only[d9,bA,cT,bW]|true=>obtain⟨μ3,w3,q3⟩:=pC b2 (c:=93) cr;refine⟨μ3,by simpa[eV]using(w1.trans w2).trans w3,cm ?_⟩;have q3':(ev E).call 130 [LV.cv (CV.tref lv i 130 2),LV.int .u8 93] μ2=_:=q3;rw[JX,q1,bL];simp only[d9,bA,dW,dH,gs,cT];rw[hx,bA,eN,cL,q2,bL];simp only[d9,bA,cT,bY];rw[q3',bL,gs,bA]
def acQ {t:T}(ht:PrT br t)(hb:BS μ lv i bs)(h5:s5.length<=1000)(hz:(bs++s5++prT br t).length<=1000000):
 ∃μ',BW μ lv i (bs++s5++prT br t++(if br then [93]else [])) μ'/\xS (ev E) k y s (bT [some t]) br lv i o1 o2 o3 l4 s5 μ=some (qy μ'):=by
 obtain⟨μ',w,q⟩:=aa5 (k:=k) (y:=y) (s:=s) (o1:=o1) (o2:=o2) (o3:=o3) (l4:=l4) (xs:=bT [some t]) (t:=t) rfl ht hb h5 hz;refine⟨μ',w,cm ?_⟩;rw[JW,q,bA,BI];rfl
def acR {t u:T}(ht:PrT br t)(hu:PrT br u)(hb:BS μ lv i bs)(h5:s5.length<=1000)(hz:(bs++prT br t++s5++prT br u).length<=1000000):
 ∃μ',BW μ lv i (bs++prT br t++s5++prT br u++(if br then [93]else [])) μ'/\xS (ev E) k y s (bT [some t,some u]) br lv i o1 o2 o3 l4 s5 μ=some (qy μ'):=by
 obtain⟨μ1,w1,q1⟩:=ht μ lv i _ hb (by simp at hz |-; omega);obtain⟨μ',w,q⟩:=aa5 (k:=k) (y:=y) (s:=s) (o1:=o1) (o2:=o2) (o3:=o3) (l4:=l4) (xs:=bT [some t,some u]) (t:=u) rfl hu (w1.to hb) h5 hz;refine⟨μ',w1.trans w,cm ?_⟩;have e0:dr (bT [some t,some u]) 0=some t.cv:=rfl;have el:decide ((List.length (bT [some t,some u]):Int)=2)=true:=rfl;rw[JW,el,bY,e0,bA,eN,cL,q1,bL,d9,bA,cT,bA,q,bA,BI]
def aa4 {x:List (Option T)}{z:List UInt8}(h: ∀ν,BS ν lv i (bs++(if br then [91]else []))-> ∃μ',BW ν lv i (bs++(if br then [91]else [])++z) μ'/\xS (ev E) k y s (bT x) br lv i o1 o2 o3 l4 s5 ν=some (qy μ'))(hb:BS μ lv i bs)(hz:bs.length<=1000000):
 ∃μ',BW μ lv i (bs++(if br then [91]else [])++z) μ'/\R8 (ev E) k y s (bT x) br lv i o1 o2 o3 l4 s5 μ=some (yD μ'):=by
 have gs: ∀c:CV,cx (LV.cv c)=some c:=λ_=>rfl;cases br with
 |false=>obtain⟨μ',w,q⟩:=h μ (by simpa using hb);exact⟨μ',w,cm (by rw[JV,bW,q,bA,BH])⟩
 |true=>obtain⟨μ1,w1,q1⟩:=pC hb (c:=91) hz;obtain⟨μ',w,q⟩:=h μ1 (w1.to hb);have q1':(ev E).call 130 [LV.cv (CV.tref lv i 130 2),LV.int .u8 91] μ=_:=q1;exact⟨μ',w1.trans w,cm (by rw[JV,bY,q1',bL,gs,bA,q,bA,BH])⟩
end
def nK {k:Int}:(cz k).length<=1000:=by
 unfold cz;rw[fp];cases h:Eg[k.toNat]? with|none=>simp|some l=>exact(show ∀l∈Eg,l.length<=1000 by decide) l (Gc h)
def US: ∀(N:Nat) (t:T),t.len<=N->t.len<=1000000->FN t=true-> ∀br,PrT br t
 |0,t,h,_,_,_=>by have:=T.len_pos t;omega|N+1,.mk k y s x,h,hm,hok,br=>by
  intro μ lv i bs hb hz;rw[T.len]at h hm;rw[FN,cM]at hok;have ih: ∀b t,some t∈x->PrT b t:=λb t ht=>US N t (by have:=AC ht;omega) (by have:=AC ht;omega) (zM hok.2 t ht) b;have hxl:=uv x;have hsh:=hok.1;unfold abn at hsh;simp only[cM,dn]at hsh;obtain⟨k0,k25,hsh⟩:=hsh;have eag:fJ (LV.cv (CV.agg ij))=some ij:=rfl;have gs: ∀c:CV,cx (LV.cv c)=some c:=λ_=>rfl;rw[prT]at hz |-
  suffices hmain: ∃μ',BW μ lv i (bs++P3 br k s (prA br x) (prA false x)) μ'/\bN E (ev E) 87 [LV.cv (T.mk k y s x).cv,LV.cv (CV.tref lv i 130 2),LV.bool br] μ=some (.ret (.ltup []) μ')by
   obtain⟨μ',h1,h2⟩:=hmain;exact⟨μ',h1,b8 h2⟩
  rw[oA,aep,tY,bL,eag,bA,nQ k0 k25];unfold P3 at hz |-;by_cases c2:k=2
  ·rw[bK c2]at hz |-;simp only[cC,cB,cG]at hz;obtain⟨μ1,w1,q1⟩:=Dx hb (s:=s++[40]) bu cr;have b1:=w1.to hb;obtain⟨μ2,w2,q2⟩:=AH (c:=44) (o:=shO k) (ih false) b1 bu cr;have b2:=w2.to b1;obtain⟨ν,w3,q3⟩:=pC (BS.push (x:=[Ob.cells [LV.cv (CV.tref lv i 130 2)],shO k]) b2) (c:=41) cr;obtain⟨μ3,rfl,w3'⟩:=w3.pop b2.lt;refine⟨μ3,by simpa[eV]using(w1.trans w2).trans w3',?_⟩
   have hG : XO (ev E) [Ob.cells [LV.cv (CV.tref lv i 130 2)], shO k] μ2 = some (Ci [Ob.cells [LV.cv (CV.tref lv i 130 2)], shO k] μ3) := cm (by
    have q3':(ev E).call 130 [LV.cv (CV.tref lv i 130 2),LV.int .u8 41] (μ2++[[Ob.cells [LV.cv (CV.tref lv i 130 2)],shO k]])=_:=q3
    rw[Zx,q3',bL,dM,bA,gs,bA])
   rw[cu c2,bY,fC cr,cL,q1,bL];simp only[d9,bA,dW,dH,gs,cT];rw[q2,bL,dM,bA,d9,bA,cT,bA,Yh,hG,bA,Q1]
  rw[bE c2]at hz |-;rw[cE c2,bW];by_cases c3:k=3
  ·rw[bK c3]at hz |-;rw[bE bu,bK c3,dn]at hsh;obtain⟨a,b,c,rfl⟩: ∃a b c,x=[a,b,c]:=by
    match x,hsh with
    |[a,b,c],_=>exact⟨a,b,c,rfl⟩
   have e2:dr (bT [a,b,c]) 2=some (eQ c):=rfl;rw[cu c3,bY,e2,bA,gR,cL];cases c with
   |none=>
    have ep:(prA false [a,b,none])[2]? =some none:=by cases a<;>cases b<;>simp[prA]
    have et:(prA false [a,b,none]).take 2=prA false [a,b]:=by cases a<;>cases b<;>simp[prA]
    rw[bK ep,et]at hz |-;obtain⟨μ1,w1,q1⟩:=AH (c:=58) (o:=shO k) (x:=[a,b]) (λt ht=>ih false t (by simp at ht |-; exact ht.elim .inl .inr)) hb bG (by simpa using hz);have ec:ku (bT [a,b,none]) 0 2=some (bT [a,b]):=rfl;refine⟨μ1,w1,?_⟩;rw[nJ,bA,bY,ec,bA,q1,bL,dM,bA,d9,bA,cT,bA]
   |some t=>
    have ep: ¬(prA false [a,b,some t])[2]? =some none:=by cases a<;>cases b<;>simp[prA]
    rw[bE ep]at hz |-;obtain⟨μ1,w1,q1⟩:=AH (c:=58) (o:=shO k) (ih false) hb bu (by simpa using hz);refine⟨μ1,w1,?_⟩;rw[dS,mm,bA,bW,q1,bL,dM,bA,d9,bA,cT,bA]
  rw[bE c3]at hz |-;rw[cE c3,bW];by_cases c4:k=4
  ·rw[bK c4]at hz |-;simp only[cC,cB,cG]at hz;obtain⟨μ1,w1,q1⟩:=pC hb (c:=40) bu;have b1:=w1.to hb;obtain⟨μ2,w2,q2⟩:=AH (c:=44) (o:=shO k) (ih false) b1 bu cr;have b2:=w2.to b1;obtain⟨ν,w3,q3⟩:=pC (BS.push (x:=[Ob.cells [LV.cv (CV.tref lv i 130 2)],shO k]) b2) (c:=41) cr;obtain⟨μ3,rfl,w3'⟩:=w3.pop b2.lt;refine⟨μ3,by simpa[eV]using(w1.trans w2).trans w3',?_⟩;have q1':(ev E).call 130 [LV.cv (CV.tref lv i 130 2),LV.int .u8 40] μ=_:=q1
   have hG : R7 (ev E) [Ob.cells [LV.cv (CV.tref lv i 130 2)], shO k] μ2 = some (yC [Ob.cells [LV.cv (CV.tref lv i 130 2)], shO k] μ3) := cm (by
    have q3':(ev E).call 130 [LV.cv (CV.tref lv i 130 2),LV.int .u8 41] (μ2++[[Ob.cells [LV.cv (CV.tref lv i 130 2)],shO k]])=_:=q3
    rw[W5,q3',bL,dM,bA,gs,bA])
   rw[cu c4,bY,q1',bL,gs,bA,q2,bL,dM,bA,d9,bA,cT,bA,Yh,hG,bA,MO]
  rw[bE c4]at hz |-;rw[cE c4,bW];rw[bE bu,bE c3]at hsh;by_cases c5:k=5
  ·rw[bK c5]at hz |-;obtain⟨t,rfl⟩: ∃t,x=[some t]:=by
    match x,hsh with
    |[some t],_=>exact⟨t,rfl⟩|[],h=>simp[c5]at h|[some _,some _],h=>simp[c5]at h
   have eg:y9 (prA br [some t]) 0=prT br t:=by simp[prA,y9]
   rw[eg]at hz |-;simp only[cC,cB,cG]at hz;obtain⟨μ1,w1,q1⟩:=pC hb (c:=40) bu;have b1:=w1.to hb;obtain⟨μ2,w2,q2⟩:=ih br t bG μ1 lv i _ b1 cr;have b2:=w2.to b1;obtain⟨μ3,w3,q3⟩:=pC b2 (c:=41) cr;have q1':(ev E).call 130 [LV.cv (CV.tref lv i 130 2),LV.int .u8 40] μ=_:=q1;have q3':(ev E).call 130 [LV.cv (CV.tref lv i 130 2),LV.int .u8 41] μ2=_:=q3;have e0:dr (bT [some t]) 0=some t.cv:=rfl;refine⟨μ3,by simpa[eV]using(w1.trans w2).trans w3,?_⟩;rw[cu c5,bY,q1',bL,gs,bA,e0,bA,eN,cL,q2,bL,d9,bA,cT,bA,q3',bL,gs,bA]
  rw[bE c5]at hz |-;rw[cE c5,bW]
  match x,hsh,ih,hz with
  |[],_,ih,hz=>
   have e0:prA br []=[]:=by rw[prA]
   rw[e0,bK rfl]at hz |-;obtain⟨μ1,w1,q1⟩:=Dx hb (s:=s) bu bu;refine⟨μ1,w1,?_⟩;have el:decide ((List.length (bT []):Int)=0)=true:=rfl;rw[el,bY,q1,bL];simp only[d9,bA,dW,dH,gs,cT]
  |[some t],_,ih,hz=>
   have e0:prA br [some t]=[some (prT br t)]:=by simp[prA]
   have en: ¬[some (prT br t)]=[]:=bG;have e1:y9 [some (prT br t)] ([some (prT br t)].length-1)=prT br t:=rfl;have e2: ¬[some (prT br t)].length=2:=bG;rw[e0,bE en,e1,bE e2]at hz |-;simp only[cC]at hz
   obtain ⟨μ1, w1, q1⟩ := aa4 (k := k) (y := y) (s := s) (br := br) (o1 := lvl k) (o2 := oX k) (o3 := mV k) (l4 := cJ (jR k)) (s5 := cz k) (x := [some t]) (z := cz k ++ prT br t ++ (if br then [93] else [])) (λν hν => by
    obtain⟨μ',w,q⟩:=acQ (k:=k) (y:=y) (s:=s) (o1:=lvl k) (o2:=oX k) (o3:=mV k) (l4:=cJ (jR k)) (s5:=cz k) (ih br t bG) hν nK cr
    exact⟨μ',by simpa[eV]using w,q⟩) hb bu
   refine⟨μ1,by simpa[eV]using w1,?_⟩;have el:decide ((List.length (bT [some t]):Int)=0)=false:=rfl;rw[el,bW,q1,bA,BG]
  |[some t,some u],_,ih,hz=>
   have e0:prA br [some t,some u]=[some (prT br t),some (prT br u)]:=by simp[prA]
   have en: ¬[some (prT br t),some (prT br u)]=[]:=bG;have e1:y9 [some (prT br t),some (prT br u)] ([some (prT br t),some (prT br u)].length-1)=prT br u:=rfl;have e2:[some (prT br t),some (prT br u)].length=2:=bG;have e3:y9 [some (prT br t),some (prT br u)] 0=prT br t:=rfl;rw[e0,bE en,e1,bK e2,e3]at hz |-;simp only[cC]at hz
   obtain ⟨μ1, w1, q1⟩ := aa4 (k := k) (y := y) (s := s) (br := br) (o1 := lvl k) (o2 := oX k) (o3 := mV k) (l4 := cJ (jR k)) (s5 := cz k) (x := [some t, some u]) (z := prT br t ++ cz k ++ prT br u ++ (if br then [93] else [])) (λν hν => by
    obtain⟨μ',w,q⟩:=acR (k:=k) (y:=y) (s:=s) (o1:=lvl k) (o2:=oX k) (o3:=mV k) (l4:=cJ (jR k)) (s5:=cz k) (ih br t bG) (ih br u bG) hν nK cr
    exact⟨μ',by simpa[eV]using w,q⟩) hb bu
   refine⟨μ1,by simpa[eV]using w1,?_⟩;have el:decide ((List.length (bT [some t,some u]):Int)=0)=false:=rfl;rw[el,bW,q1,bA,BG]
section
variable {μ:Mu}
def lc (l:List Int):(cJ l).length=l.length:=by simp[cJ]
def aaL {i:Nat}{k ty:Int}{s:List UInt8}{fs:List CV}{l:List Int}{c0 c1:Int}{c2:List UInt8}{c3:List CV}(hc:c0=k)(hi:i<=1000000)(hl:l.length<=100000): ∀(m n:Nat) (b:Bool),n+m=l.length->
 jh (ev E) (i:Int) fs b (cJ l) (l.length:Int) (n:Int) c0 c1 c2 c3 μ=some (yV (i:Int) fs (b&&(l.drop n).all (xd i k)) c0 c1 c2 c3 μ):=by
 subst hc;intro m
 induction m with
 |zero=>intro n b hn;refine dy ?_;rw[J9,zo bu,bW,gX bu];simp|succ m ih=>
  intro n b hn;have hlt:n<l.length:=bu;refine dy ?_;rw[J9,zp hlt,bY,qV,dA hlt,d8,bA,la,bA,gU bu,gA bu bu,iM hlt,A5,AB];simp only[bU];cases b with
  |false=>rw[bW,ih (n+1) false bu];simp|true=>
   have ho:xd i c0 l[n]=((decide (0<=l[n])&&decide (l[n]<=(i:Int) -1))||(decide (l[n]= -1)&&decide (c0=3))):=rfl;rw[bY,ho,lI];cases (decide (0<=l[n])&&decide (l[n]<=(i:Int) -1))with
   |true=>rw[bY,ih (n+1) true bu];simp only[lI,Bool.true_or]|false=>
    rw[bW];cases decide (l[n]= -1)with|true=>rw[bY,ih (n+1) _ bu];simp only[lI,om]|false=>rw[bW,ih (n+1) _ bu];simp only[vH,om]
def aaj {ts:List T}(hf:mz ts):(gc ts).all (λv=>decide (0<=v)&&decide (v<=(gc ts).length))=true:=by
 rw[j2];intro v hv;obtain⟨j,hj⟩:=List.mem_iff_getElem?.1 hv;rw[CD]at hj;rw[ur];cases ht:ts[j]? with|none=>rw[ht]at hj;cases hj|some t=>rw[ht]at hj;simp only[d8,bJ]at hj;have hlt:j<ts.length:=(dm.1 ht).1;have:=hf j t ht;simp;omega
def Xu {f:Int}{x:Nd}(hs:x.text.length<=200000){c3:List CV}: ∃g,R6 (ev E) f x.kind x.typ x.text c3 μ=some (iZ g (r9 x) μ)/\(r9 x=0->g=f):=by
 have h44:=abW (μ:=μ) hs;have h90:=X6 (μ:=μ) (k:=x.typ) hs;unfold r9;by_cases h1:x.kind=1
 ·cases hc:k8 x.text with
  |true=>refine⟨f,cm ?_,λ_=>rfl⟩;rw[sT,h44,hc,h1];rfl|false=>
   refine⟨0,cm ?_,λh=> ?_⟩
   ·rw[sT,h44,hc,h1];rfl
   ·rw[bK ⟨.inl h1,rfl⟩]at h;cases h
 by_cases h2:x.kind=2
 ·cases hc:k8 x.text with
  |true=>refine⟨f,cm ?_,λ_=>rfl⟩;rw[sT,h44,hc,h2];rfl|false=>
   refine⟨0,cm ?_,λh=> ?_⟩
   ·rw[sT,h44,hc,h2];rfl
   ·rw[bK ⟨.inr h2,rfl⟩]at h;cases h
 refine⟨f,cm ?_,λ_=>rfl⟩;rw[sT,cE h1,cE h2,bW,bW,bE (λh=>h.1.elim h1 h2)];by_cases h0:x.kind=0
 ·rw[cu h0,bY,h90,bK h0];simp only[bU]
 ·rw[cE h0,bW,bE h0]
def HQ (ts:List T)(i:Nat)(x:Nd):Int:=match lR ts x.args.reverse i with|none=>3|some _=>r9 x
def Xt {ts:List T}{x:Nd}(hf:mz ts)(hi:ts.length<=1000000)(hs:x.text.length<=200000)(hl:x.args.length<=100000):
 ∃g,R5 (ev E) (ts.length:Int) (cJ (gc ts)) x.kind x.typ x.text (cJ x.args) μ=some (tI g (HQ ts ts.length x) μ)/\(HQ ts ts.length x=0->lR ts x.args.reverse ts.length=some g):=by
 have hok:ED (gc ts) x.args (ts.length:Int)=true:=by unfold ED;rw[aaj hf,ur];simp;omega
 obtain⟨e1,e2⟩:=AQ hf x.args.reverse ts.length bu bu;have h:=aan (μ:=μ) hok;rw[e1]at h;unfold HQ;cases hv:lR ts x.args.reverse ts.length with
 |none=>refine⟨0,cm ?_,λh=>by cases h⟩;rw[JU,h,hv];rfl|some v=>obtain⟨g,k1,k2⟩:=Xu (μ:=μ) (f:=v) (c3:=cJ x.args) hs;refine⟨g,cm ?_,λh=>by rw[k2 h]⟩;rw[JU,h,hv];simp only[Lc,bU];rw[k1,bA];exact MN _ _ _ _
def wJ (ts:List T)(i:Nat)(x:Nd):Int:=if(Ax x&&rW i x)=false then 3 else HQ ts i x
def ZN {ts:List T}{x:Nd}(hf:mz ts)(hi:ts.length<=1000000)(hs:x.text.length<=200000)(hl:x.args.length<=100000):
 ∃g,XI (ev E) (ts.length:Int) (cJ (gc ts)) x.kind x.typ x.text (cJ x.args) μ=some (sD g (wJ ts ts.length x) μ)/\(wJ ts ts.length x=0->lR ts x.args.reverse ts.length=some g):=by
 have key: ∀b,(b=Ax x)-> ∃g,opt (jh (ev E) (ts.length:Int) (cJ (gc ts)) b (cJ x.args) ((cJ x.args).length:Int) (0:Int) x.kind x.typ x.text (cJ x.args) μ) (kS (ev E) H67 [.block 0,.seq (cN 67 255)] [(6,0),(7,0)])=some (sD g (wJ ts ts.length x) μ)/\(wJ ts ts.length x=0->lR ts x.args.reverse ts.length=some g):=by
  intro b hb;have h:=aaL (μ:=μ) (i:=ts.length) (k:=x.kind) (ty:=0) (s:=[]) (fs:=cJ (gc ts)) (l:=x.args) (c0:=x.kind) (c1:=x.typ) (c2:=x.text) (c3:=cJ x.args) rfl hi hl x.args.length 0 b bu;have e0:((0:Nat):Int)=0:=rfl;rw[e0,jx]at h;rw[lc,h,bA,M9];unfold wJ rW;rw[hb];cases hq:(Ax x&&x.args.all (xd ts.length x.kind))with
  |false=>rw[bK rfl];exact⟨0,rfl,λh=>by cases h⟩|true=>obtain⟨g,k1,k2⟩:=Xt (μ:=μ) (x:=x) hf hi hs hl;rw[bE bG];refine⟨g,?_,k2⟩;rw[k1];simp only[db,bW,bA];exact MM _ _ _ _
 obtain⟨g,k1,k2⟩:=key _ rfl;refine⟨g,cm ?_,k2⟩;rw[Zq,<-k1];unfold Ax Tz;by_cases h0:x.kind=0
 ·rw[h0];rfl
 by_cases h1:x.kind=1
 ·rw[h1];simp
 by_cases h2:x.kind=2
 ·rw[h2];simp
 by_cases h3:x.text=[]
 ·simp[h0,h1,h2,h3]
 ·simp[h0,h1,h2,h3]
def ml (e:List Nd)(i:Nat):dr (ct e) (i:Int)=(e[i]?).map Nd.cv:=by rw[mt];simp[ct]
theorem lO {β:Type}{x:Nd}{k:Int->Int->List UInt8->List CV->Option β}:xk (LV.cv x.cv) k=k x.kind x.typ x.text (cJ x.args):=rfl
theorem W8 (ts:List T)(i:Nat)(x:Nd):jT ts i x=if oa x=false then 15 else if zj x=false then 10 else wJ ts i x:=rfl
def abU {ts:List T}{e:List Nd}{x:Nd}(hx:e[ts.length]? =some x)(hf:mz ts)(hi:ts.length<=1000000)(hs:x.text.length<=200000)(hl:x.args.length<=100000):
 ∃g,(ev E).call 67 [LV.cv (CV.sl (ct e)),bv (ts.length:Int),LV.cv (CV.sl (cJ (gc ts)))] μ=some (.ret (.ltup [bv g,bv (jT ts ts.length x)]) μ)/\
  (jT ts ts.length x=0->lR ts x.args.reverse ts.length=some g):=by
 rw[W8];have eag:fJ (LV.cv (CV.agg ij))=some ij:=rfl;have hk:(decide (0<=x.kind)&&decide (x.kind<=24))=oa x:=rfl;cases hkb:oa x with
 |false=>refine⟨0,b8 ?_,λh=>by simp at h⟩;rw[WB,ml,hx,d8,bA,lO,AB,hk,hkb];rfl|true=>
  have hkk:=hkb;unfold oa at hkk;simp only[cM,dn]at hkk;have hsh:= @nQ;have hll:(decide (oX x.kind<=(x.args.length:Int))&&decide ((x.args.length:Int)<=mV x.kind))=zj x:=rfl;cases hlb:zj x with
  |false=>
   have hG:PA (ev E) (ts.length:Int) (cJ (gc ts)) x.kind x.typ x.text (cJ x.args) μ=some (sC 0 10 μ):=by refine cm ?_;rw[OZ,tY,bL,eag,bA,nQ hkk.1 bu,lc,AB,hll,hlb];rfl
   refine⟨0,b8 ?_,λh=>by simp at h⟩;rw[WB,ml,hx,d8,bA,lO,AB,hk,hkb];simp only[bU];rw[hG,bA];exact Eb _ _ _ _
  |true=>
   obtain⟨g,k1,k2⟩:=ZN (μ:=μ) (x:=x) hf hi hs hl;have hG:PA (ev E) (ts.length:Int) (cJ (gc ts)) x.kind x.typ x.text (cJ x.args) μ=some (sC g (wJ ts ts.length x) μ):=by refine cm ?_;rw[OZ,tY,bL,eag,bA,nQ hkk.1 bu,lc,AB,hll,hlb];simp only[bU];rw[k1,bA];exact QV _ _ _ _
   refine⟨g,b8 ?_,λh=>k2 (by simpa using h)⟩;rw[WB,ml,hx,d8,bA,lO,AB,hk,hkb];simp only[bU];rw[hG,bA];exact Eb _ _ _ _
end
section
variable {μ:Mu}
def l7 {sz:Nat}{xs ys:List CV}(h1:xs.length+ys.length<=1000000)(h2:ee sz xs=true)(h3:ee sz ys=true):ef sz xs ys=true:=by unfold ef;rw[h2,h3];simp[small];omega
def Vl (ts:List T)(n:Nat):dr (ts.map T.cv) (n:Int)=(ts[n]?).map T.cv:=by rw[mt,fP]
def aal (i:Nat)(x:Nd):Prop:= ∀a∈x.args,a= -1\/(0<=a/\a<i)
def tU {i:Nat}{x:Nd}(h:rW i x=true):aal i x:=by intro a ha;unfold rW at h;have:=j2.1 h a ha;unfold xd at this;simp only[jw,cM,dn]at this;omega
def Fi {ts:List T}{a:Int}(h:a= -1\/(0<=a/\a<ts.length))(hne:a≠ -1): ∃t,ts[a.toNat]? =some t/\fG ts a=some t:=by have h2:a.toNat<ts.length:=bu;refine⟨ts[a.toNat],dA h2,?_⟩;unfold fG;rw[bE hne,dA h2]
def T8 {x0 x4 x23 x50:List CV}{x6 x8 x24 x25 p0 p1 q0 q1:Int}{p2 q2:List UInt8}{p3:List CV}{ts:List T}{l:List Int}(hl:l.length<=1000)(hin: ∀a∈l,a= -1\/(0<=a/\a<ts.length)): ∀(m n:Nat),n+m=l.length->
 Db (ev E) x0 x4 (ts.map T.cv) x6 x8 x23 x24 x25 (cJ l) (l.length:Int) (n:Int) p0 p1 p2 p3 q0 q1 q2 (bT ((l.take n).map (fG ts))) μ=some (yU x0 x4 (ts.map T.cv) x6 x8 x23 x24 x25 q0 q1 q2 (bT (l.map (fG ts))) μ):=by
 intro m
 induction m with
 |zero=>intro n hn;refine dy ?_;rw[J8,zo bu,bW,AW bu]|succ m ih=>
  intro n hn;have hlt:n<l.length:=bu;have hnext:bT ((l.take (n+1)).map (fG ts))=bT ((l.take n).map (fG ts))++[eQ (fG ts l[n])]:=by rw[FZ hlt,th,wD,dQ,iC,bT,bT]
  have hsz:=iQ ((l.take n).map (fG ts));have hlen:(bT ((l.take n).map (fG ts))).length<=1000:=by rw[eF];simp;omega
  refine dy ?_;rw[J8,zp hlt,bY,qV,dA hlt,d8,bA,la,bA,gU bu];by_cases ha:l[n]= -1
  ·have he:eQ (fG ts l[n])=CV.v (.pointer none):=by unfold fG;rw[bK ha,ip]
   rw[cu ha,bY,l7 (by simp only[cB,cG];omega) hsz (by rfl),cL,<-he,<-hnext];exact ih (n+1) bu
  ·obtain⟨t,h1,h2⟩:=Fi (hin _ (q7 hlt)) ha;have hr:=hin _ (q7 hlt);have hcast:((l[n].toNat:Nat):Int)=l[n]:=bu;have hs:dr (ts.map T.cv) l[n]=some t.cv:=by rw[<-hcast,Vl,h1];rfl
   have he:eQ (fG ts l[n])=t.cv:=by rw[h2,dS]
   have hhd:gw [t.cv]=true:=by simp[gw,jS]
   rw[cE ha,bW,hs,bA,eN,cL,cL,jS,hhd,l7 (by simp only[cB,cG];omega) hsz (by simp[ee,uW])];simp only[pk,cL];rw[<-he,<-hnext];exact ih (n+1) bu
structure Good (e:List Nd) (ts:List T):Prop where
 len:ts.length<=e.length
 first:mz ts
 each: ∀j t,ts[j]? =some t-> ∃x,e[j]? =some x/\t=mkT (ts.take j) x/\jT (ts.take j) j x=0/\lh t=0
def Good.nil (e:List Nd):Good e []:=⟨bG,λj t h=>by simp at h,λj t h=>by simp at h⟩
def Good.step {e:List Nd}{ts:List T}(g:Good e ts){x:Nd}(hx:e[ts.length]? =some x)(h:pf ts x=0):Good e (ts++[mkT ts x]):=by
 obtain⟨h1,h2⟩:=RB h;have hlt:ts.length<e.length:=(dm.1 hx).1;refine⟨cr,g.first.step h1,λj t hj=> ?_⟩;by_cases hlj:j<ts.length
 ·rw[fN hlj]at hj;obtain⟨y,k1,k2,k3,k4⟩:=g.each j t hj;have:(ts++[mkT ts x]).take j=ts.take j:=by rw[List.take_append_of_le_length bu]
  rw[this];exact⟨y,k1,k2,k3,k4⟩
 ·have hj2:j=ts.length:=by have:=(dm.1 hj).1;simp at this;omega
  subst hj2;rw[ju (cw _)]at hj;simp only[sk,eu,bJ]at hj;subst hj;have:(ts++[mkT ts x]).take ts.length=ts:=bG;rw[this];exact⟨x,hx,rfl,h1,h2⟩
def Good.kind {e:List Nd}{ts:List T}(g:Good e ts){j:Nat}{t:T}(h:ts[j]? =some t):0<=t.kind/\t.kind<25:=by obtain⟨x,h1,h2,h3,h4⟩:=g.each j t h;have:=(oe h3).1;unfold oa at this;simp only[cM,dn]at this;rw[h2];show 0<=x.kind/\x.kind<25;omega
def Good.sign {e:List Nd}{ts:List T}(g:Good e ts){j:Nat}{t:T}(h:ts[j]? =some t)(hk:t.kind=6\/t.kind=7){y:Option T}(hy:y∈t.args): ∃u,y=some u:=by
 obtain⟨x,h1,h2,h3,h4⟩:=g.each j t h;obtain⟨a1,a2,a3,a4,_,_⟩:=oe h3;have hkx:x.kind=6\/x.kind=7:=by rw[h2]at hk;exact hk
 rw[h2]at hy;simp only[mkT,T.args,nv]at hy;obtain⟨a,ha,rfl⟩:=hy;have hin:=tU a4 a ha;have hne:a≠ -1:=by intro e;have:=j2.1 a4 a ha;unfold xd at this;simp only[jw,cM,dn]at this;omega
 have hlt:j<ts.length:=(dm.1 h).1;obtain⟨u,_,hu⟩:=Fi (ts:=ts.take j) (a:=a) (by rw[nu];omega) hne;exact⟨u,hu⟩
def Yy {ts:List T}{x:Nd}{u:T}(hu:some u∈(mkT ts x).args): ∃j:Nat,ts[j]? =some u:=by
 simp only[mkT,T.args,nv]at hu;obtain⟨a,_,ha⟩:=hu;unfold fG at ha;split at ha
 ·cases ha
 ·exact⟨_,ha⟩
def Wq {e:List Nd}{ts:List T}(g:Good e ts){x:Nd}(h:jT ts ts.length x=0)(hl:x.args.length<=1000):(ev E).call 68 [LV.cv (mkT ts x).cv] μ=some (.ret (bv (lh (mkT ts x))) μ):=by
 obtain⟨a1,a2,a3,a4,_,_⟩:=oe h;have hk:=a1;unfold oa at hk;simp only[cM,dn]at hk;refine abV (by simp[mkT,T.args];omega) hk.1 (by show x.kind<25;omega) (λu hu=> ?_) (λh4 y hy=> ?_)
 ·obtain⟨j,hj⟩:=Yy hu;exact g.kind hj
 ·have h4':x.kind=4:=h4;have hy':=hy;simp only[mkT,T.args,nv]at hy';obtain⟨a,ha,rfl⟩:=hy';have hin:=tU a4 a ha;have hne:a≠ -1:=by intro e;have:=j2.1 a4 a ha;unfold xd at this;simp only[jw,cM,dn]at this;omega
  obtain⟨u,hu1,hu2⟩:=Fi (ts:=ts) hin hne;exact⟨u,hu2,λz hz hz2=>g.sign hu1 hz (by rw[hz2];simp)⟩
theorem TE (n:Int):cJ [n]=[bD n]:=rfl
def Ct: ∀(l:List Int),ee 1 (cJ l)=true
 |[]=>rfl|n::r=>by have e:cJ (n::r)=bD n::cJ r:=rfl;rw[e];simp only[ee];rw[show ga 1 (bD n)=true from rfl];exact Ct r
def Wv {e:List Nd}(he:e.length<=200)(htx: ∀x∈e,x.text.length<=200000/\x.args.length<=1000): ∀(m:Nat) (ts:List T),Good e ts->ts.length+m=e.length->
 PK (ev E) (ct e) (cJ (gc ts)) (ts.map T.cv) (ct e) (e.length : Int) (ts.length : Int) μ = some (match nP (e.drop ts.length) ts with
  | .inl q=>wx q.1 q.2 μ
  | .inr us=>Cl (ct e) (cJ (gc us)) μ):=by
 intro m
 induction m with
 |zero=>intro ts g hn;refine dy ?_;rw[O3,zo bu,bW,gX bu];rfl|succ m ih=>
  intro ts g hn;have hlt:ts.length<e.length:=bu;have hx:e[ts.length]? =some e[ts.length]:=dA hlt;have hd:e.drop ts.length=e[ts.length]::e.drop (ts.length+1):=iM hlt;revert hx hd;generalize hxe:e[ts.length]=x;intro hx hd;obtain⟨hs,hal⟩:=htx x (by rw[<-hxe];exact q7 hlt);obtain⟨gg,k1,k2⟩:=abU (μ:=μ) hx g.first bu hs bu;refine dy ?_;rw[O3,zp hlt,bY,ml,hx,d8,bA,lO,k1];simp only[bU];rw[hd,nP];by_cases hA:jT ts ts.length x=0
  ·have hst:pf ts x=lh (mkT ts x):=by unfold pf;rw[bE (by simpa using hA)]
   rw[hst];rw[show decide (jT ts ts.length x=0)=true by simp[hA]];simp only[db,bW];obtain⟨a1,a2,a3,a4,_,_⟩:=oe hA;have h15:=T8 (μ:=μ) (x0:=ct e) (x4:=cJ (gc ts)) (x23:=ct e) (x50:=[]) (x6:=(ts.length:Int)) (x8:=gg) (x24:=(e.length:Int)) (x25:=(ts.length:Int)) (p0:=x.kind) (p1:=x.typ) (p2:=x.text) (p3:=cJ x.args) (q0:=x.kind) (q1:=x.typ) (q2:=x.text) (ts:=ts) (l:=x.args) hal (tU a4) x.args.length 0 bu;have e0:((0:Nat):Int)=0:=rfl;have en:bT (([]:List Int).map (fG ts))=[]:=by rw[iC,bT]
   rw[e0,List.take_zero,en]at h15;have hcv:(mkT ts x).cv=CV.view [bD x.kind,bD x.typ,CV.str x.text,CV.sl (bT (x.args.map (fG ts)))]:=na _;have h68:=Wq (μ:=μ) g hA hal;rw[hcv]at h68;have hG24:R0 (ev E) (ct e) (cJ (gc ts)) (ts.map T.cv) gg x.kind x.typ x.text (bT (x.args.map (fG ts))) (ct e) (e.length:Int) (ts.length:Int) μ=
    some (yB (ct e) (cJ (gc ts)++[bD gg]) (ts.map T.cv++[(mkT ts x).cv]) (ct e) (e.length:Int) (ts.length:Int) μ):=by
    refine cm ?_;rw[W1,l7 (by rw[lc,ur];simp;omega) (Ct _) (by rfl),cL,<-hcv,l7 cr (p5 _) (by simp[ee,uW]),cL]
   have hG13:RZ (ev E) (ct e) (cJ (gc ts)) (ts.map T.cv) (ts.length:Int) gg (ct e) (e.length:Int) (ts.length:Int) x.kind x.typ x.text (cJ x.args) μ=
    some (if lh (mkT ts x)=0 then yA (ct e) (cJ (gc ts)++[bD gg]) (ts.map T.cv++[(mkT ts x).cv]) (ct e) (e.length:Int) (ts.length:Int) μ else yz (ts.length:Int) (lh (mkT ts x)) μ):=by
    refine cm ?_;rw[WZ,lc,h15,bA,M8,h68];simp only[bU];by_cases h0:lh (mkT ts x)=0
    ·rw[show decide (lh (mkT ts x)=0)=true by simp[h0],bK h0];simp only[db,bW];rw[hG24,bA];exact MK _ _ _ _ _ _ _ _
    ·rw[show decide (lh (mkT ts x)=0)=false by simp[h0],bE h0];rfl
   rw[hG13,bA];by_cases h0:lh (mkT ts x)=0
   ·rw[bK h0,bE (by simp[h0]),MJ,gU bu];have hst:pf ts x=0:=by rw[hst];exact h0
    have hf1:cJ (gc ts)++[bD gg]=cJ (gc (ts++[mkT ts x])):=by rw[Wn,izCV_app,Jo (k2 hA),TE]
    have hf2:ts.map T.cv++[(mkT ts x).cv]=(ts++[mkT ts x]).map T.cv:=bG;rw[hf1,hf2];have:=ih (ts++[mkT ts x]) (g.step hx hst) cr;rw[show (ts++[mkT ts x]).length=ts.length+1 by simp]at this;exact this
   ·rw[bE h0,bK (show lh (mkT ts x)≠0 from h0)];exact MI _ _ _ _
  ·rw[show decide (jT ts ts.length x=0)=false by simp[hA]];simp only[dF,bY];have hst:pf ts x=jT ts ts.length x:=by unfold pf;rw[bK hA]
   rw[hst,bK (show jT ts ts.length x≠0 from hA)]
def zS {e:List Nd}: ∀(m:Nat) (ts us:List T),Good e ts->ts.length+m=e.length->nP (e.drop ts.length) ts= .inr us->Good e us/\us.length=e.length
 |0,ts,us,g,hn,h=>by rw[gX bu,nP]at h;injection h with h;subst h;exact⟨g,bu⟩
 |m+1,ts,us,g,hn,h=>by
  have hlt:ts.length<e.length:=bu;rw[iM hlt,nP]at h;split at h
  ·cases h
  ·rename_i h0;have h0:pf ts e[ts.length]=0:=by simpa using h0
   refine zS m _ us (g.step (dA hlt) h0) cr ?_;rw[show (ts++[mkT ts e[ts.length]]).length=ts.length+1 by simp];exact h
def X3 {e:List Nd}(htx: ∀x∈e,x.text.length<=200000/\x.args.length<=1000)(hle:e.length<=100000):(ev E).call 33 [LV.cv (CV.sl (ct e))] μ=some (.ret (.ltup [bv (jj e).1,bv (jj e).2]) μ):=by
 refine b8 ?_;have hlen:(ct e).length=e.length:=by simp[ct]
 rw[aeb,hlen];unfold jj;by_cases h0:e=[]
 ·subst h0;rfl
 have h0':e.length≠0:=λh=>h0 (AU.1 h);rw[show decide ((e.length:Int)=0)=false by simp[h0],bW,bE h0];by_cases h1:120<e.length
 ·rw[show decide ((120:Int)<(e.length:Int))=true by simp;omega,bY,bK h1]
 rw[show decide ((120:Int)<(e.length:Int))=false by simp;omega,bW,bE h1];have hL:=Wv (μ:=μ) (e:=e) bu htx e.length [] (Good.nil e) bG;have hG:XD (ev E) (ct e) μ=some (px (match nP e []with| .inl q=>q| .inr ts=>Jf e ts).1 (match nP e []with| .inl q=>q| .inr ts=>Jf e ts).2 μ):=by
  refine cm ?_;rw[Zl,hlen];have e1:gc []=[]:=rfl;have e2:cJ []=[]:=rfl;rw[e1,e2,iC,cG,jx]at hL;have e3:((0:Nat):Int)=0:=rfl;rw[e3]at hL;rw[hL,bA];cases hr:nP e []with
  |inl q=>exact Q6 _ _ _ _|inr us=>
   dsimp only;obtain⟨g,hul⟩:=zS e.length [] us (Good.nil e) bG (by simpa using hr);have hlt:e.length-1<e.length:=bu;have hcast:(e.length:Int) -1=((e.length-1:Nat):Int):=bu;rw[Q7,hlen,gA bu bu,hcast,ml,dA hlt,d8,bA,lO];have hlast:e.getLast?=some e[e.length-1]:=by rw[List.getLast?_eq_getElem?,dA hlt]
   unfold Jf;rw[hlast];dsimp only;by_cases h3:e[e.length-1].kind=3
   ·rw[cu h3,bY,bK (.inl h3),hcast]
   ·have hsl:dr (cJ (gc us)) ((e.length-1:Nat):Int)=some (bD (jc us (e.length-1))):=by rw[qV,CD];unfold jc;rw[dA bu];rfl
    rw[cE h3,bW,hsl,bA,la,bA];by_cases h4:jc us (e.length-1)=0
    ·rw[show decide (jc us (e.length-1)=0)=true by simp[h4],bE (by simp[h3,h4])];rfl
    ·rw[show decide (jc us (e.length-1)=0)=false by simp[h4],bK (.inr h4),hcast];rfl
 rw[hG,bA];exact QJ _ _ _ _
end
section
variable {μ:Mu}{e:List Nd}{ts:List T}
def Good.arg {j:Nat}{t:T}{x:Nd}(g:Good e ts)(h:ts[j]? =some t)(hx:e[j]? =some x):t=mkT (ts.take j) x/\jT (ts.take j) j x=0/\lh t=0:=by obtain⟨y,h1,h2,h3,h4⟩:=g.each j t h;rw[hx]at h1;injection h1 with h1;subst h1;exact⟨h2,h3,h4⟩
def Xx {a:Int}(h0:0<=a)(h1:a<ts.length): ∃t,ts[a.toNat]? =some t/\fG ts a=some t/\szT ts a=t.size:=by
 have h2:a.toNat<ts.length:=bu;refine⟨ts[a.toNat],dA h2,?_,?_⟩
 ·unfold fG;rw[bE bu,dA h2]
 ·unfold szT;rw[dA h2]
end
section
variable {μ:Mu}{e:List Nd}{ts:List T}
end
section
variable {μ:Mu}{e:List Nd}{ts:List T}
end
def zU {α:Type}: ∀(vs pre cs:List α),cs.length=vs.length->dh (pre++cs) pre.length vs=pre++vs
 |[],pre,cs,h=>by have:cs=[]:=AU.1 h;subst this;rfl|v::r,pre,[],h=>by simp at h|v::r,pre,c::cs,h=>by
  have e:(pre++c::cs).set pre.length v=(pre++[v])++cs:=by rw[List.set_append_right (h:=cw _)];simp
  rw[dh,e];have:=zU r (pre++[v]) cs (by simpa using h);rw[cC,F7]at this;rw[this,eV];rfl
def DB: ∀(cs:List CV),ko false 1 cs.length cs=cs
 |[]=>rfl|c::r=>by rw[cB,ko];simp only[List.headD_cons,tj,jx,DB r]
def CX (n:Nat)(z:CV):kc n [z]=List.replicate n z:=by
 unfold kc
 induction n with|zero=>rfl|succ n ih=>rw[vE,List.flatten_cons,ih];rfl
def IS: ∀(l:List Int),List.flatMap CV.cells (cJ l)=cJ l
 |[]=>rfl|n::r=>by have e:cJ (n::r)=bD n::cJ r:=rfl;rw[e,tu,IS r];rfl
def Hm: ∀(l:List Int),fD (cJ l)=true
 |[]=>rfl|n::r=>by have e:cJ (n::r)=bD n::cJ r:=rfl;rw[e];simp only[fD];rw[show cY (bD n)=true from rfl];exact Hm r
section
variable {μ:Mu}{e:List Nd}
def abQ {l:List Int}(h:l.length<=1000000):(ev E).call 54 [LV.cv (CV.sl (cJ l))] μ=some (.ret (LV.cv (CV.sl (cJ l))) μ):=by
 refine b8 ?_;have hset:dh (kc (Int.toNat (l.length:Int)) [bD (0:Int)]) 0 (List.flatMap CV.cells (cJ l))=cJ l:=by rw[IS,CX,ti];exact zU (cJ l) [] (List.replicate l.length (bD 0)) (by simp[cJ])
 have hrl:(kc (Int.toNat (l.length:Int)) [bD (0:Int)]).length=l.length:=by rw[CX];simp
 have b1:(decide (0<=(l.length:Int))&&decide ((l.length:Int)<=(1000000000:Int)))=true:=cr;have b2:Nat.ble l.length (Int.toNat (l.length:Int))=true:=vO bG;have b3:Nat.ble (0+l.length*1) l.length=true:=vO bu;have b4:Nat.ble (Int.toNat (l.length:Int)*1) l.length=true:=vO bG;rw[aed,lc,hset,hrl,lc,b1,cL,Ct,b2,b3,Hm,b4];simp only[pk,cL];rw[ti];have:=DB (cJ l);rw[lc]at this;rw[this]
def Gz: ∀(l:List Nd),ee 4 (ct l)=true
 |[]=>rfl|x::r=>by have e:ct (x::r)=x.cv::ct r:=rfl;rw[e];simp only[ee];rw[show ga 4 x.cv=true from rfl];exact Gz r
def qJ (e:List Nd):(ct e).length=e.length:=by simp[ct]
def abL (he:e.length<=100000)(htx: ∀x∈e,x.args.length<=1000):(ev E).call 17 [LV.cv (CV.sl (ct e))] μ=some (.ret (LV.osl (ct e)) μ):=by
 refine b8 ?_;have loop: ∀(m n:Nat),n+m=e.length->PI (ev E) (ct e) (ct (e.take n)) (n:Int) μ=some (Cj (ct e) μ):=by
  intro m
  induction m with
  |zero=>intro n hn;refine dy ?_;rw[O0,qJ,zo bu,bW,AW bu]|succ m ih=>
   intro n hn;have hlt:n<e.length:=bu;have hx:e[n]? =some e[n]:=dA hlt;have hnext:ct (e.take n)++[e[n].cv]=ct (e.take (n+1)):=by rw[FZ hlt];simp only[ct,th,dQ,iC]
   have hcv:CV.agg [bD e[n].kind,bD e[n].typ,CV.str e[n].text,CV.sl (cJ e[n].args)]=e[n].cv:=rfl;have hal:=htx e[n] (q7 hlt);refine dy ?_;rw[O0,qJ,zp hlt,bY,ml,hx,d8,bA,lO,bA,lO,bA,lO,bA,lO,abQ bu];simp only[bU];rw[hcv,l7 (by rw[qJ];simp;omega) (Gz _) (by rfl),cL,hnext,gU bu];exact ih (n+1) bu
 have:=loop e.length 0 bu;have e0:((0:Nat):Int)=0:=rfl;have e1:ct (e.take 0)=[]:=rfl;rw[e0,e1]at this;rw[ad5,this,bA];exact Q3 _ _ _
def ac3: ∃d,E.P.underlying 91=some d:=by have h:(E.P.underlying 91).isSome=true:=bx;exact F3.1 h
def abB:dz E.P 91=false:=bx
def abh {cs:List CV}{n:Nat}{c:CV}(h:cs[n]? =some c):cD E.P 91 (Ob.arr 1 cs) (0+n*1)=some (LV.cv c):=by obtain⟨d,hd⟩:=ac3;simp only[cD,hd,bA,pQ,jq,abB];rw[show 0+n*1=n by omega,h];rfl
def pB (us:List T)(N j:Nat):List CV:=(us.take j).map T.cv++List.replicate (N-j) (CV.v (.pointer none))
def VK {us:List T}{N j:Nat}(h:us.length=N)(hj:j<=N):(pB us N j).length=N:=by simp[pB];omega
def IH {us:List T}{N j k:Nat}(hk:k<j){t:T}(ht:us[k]? =some t):(pB us N j)[k]? =some t.cv:=by have hl:k<us.length:=(dm.1 ht).1;unfold pB;rw[fN cr,fP,Gj,bK hk,ht];rfl
def VL {us:List T}{N j:Nat}(h:us.length=N)(hj:j<N){t:T}(ht:us[j]? =some t):dh (pB us N j) j [t.cv]=pB us N (j+1):=by
 simp only[dh];have e1:us.take (j+1)=us.take j++[t]:=by rw[List.take_add_one,ht];rfl
 have e2:N-j=(N-(j+1))+1:=bu;unfold pB;rw[e1,e2,vE,th];have hl:((us.take j).map T.cv).length=j:=cr;rw[List.set_append_right (h:=by omega),hl];simp
def T7 {us:List T}{N j:Nat}(hN:us.length=N)(hN2:N<=1000)(hj:j<N){xs x12:List CV}{x4 x13 x14 p0 p1 q0 q1:Int}{p2 q2:List UInt8}{p3:List CV}{l:List Int}(hl:l.length<=1000)(hin: ∀a∈l,a= -1\/(0<=a/\a<j)): ∀(m n:Nat),n+m=l.length->
 C8 (ev E) xs N x4 x12 x13 x14 (cJ l) (l.length:Int) (n:Int) (pB us N j) p0 p1 p2 p3 q0 q1 q2 (bT ((l.take n).map (fG (us.take j)))) μ=some (yH xs N x4 x12 x13 x14 (pB us N j) q0 q1 q2 (bT (l.map (fG (us.take j)))) μ):=by
 intro m
 induction m with
 |zero=>intro n hn;refine dy ?_;have htk:l.take n=l:=AW bu;rw[J0,zo bu,bW,htk]|succ m ih=>
  intro n hn;have hlt:n<l.length:=bu;have hnext:bT ((l.take (n+1)).map (fG (us.take j)))=bT ((l.take n).map (fG (us.take j)))++[eQ (fG (us.take j) l[n])]:=by rw[FZ hlt,th,wD,dQ,iC,bT,bT]
  have hsz:=iQ ((l.take n).map (fG (us.take j)));have hlen:(bT ((l.take n).map (fG (us.take j)))).length<=1000:=by rw[eF];simp;omega
  refine dy ?_;rw[J0,zp hlt,bY,qV,dA hlt,d8,bA,la,bA,gU bu];by_cases ha:l[n]= -1
  ·have he:eQ (fG (us.take j) l[n])=CV.v (.pointer none):=by unfold fG;rw[bK ha,ip]
   rw[cu ha,bY,l7 (by simp only[cB,cG];omega) hsz (by rfl),cL,<-he,<-hnext];exact ih (n+1) bu
  ·have hr:=hin _ (q7 hlt);have hr0:0<=l[n]/\l[n]<j:=bu;obtain⟨t,h1,h2,_⟩:=Xx (ts:=us.take j) hr0.1 (by rw[nu];omega);have h3:us[l[n].toNat]? =some t:=by rw[Gj,bK bu]at h1;exact h1
   have he:eQ (fG (us.take j) l[n])=t.cv:=by rw[h2,dS]
   have hhd:gw [t.cv]=true:=by simp[gw,jS]
   have hget:=abh (IH (us:=us) (N:=N) (j:=j) (k:=l[n].toNat) bu h3);have hcv:cx (LV.cv t.cv)=some t.cv:=rfl;rw[cE ha,bW,tV bu bu,cL,hget,bA,hcv,bA,eN,cL,jS,hhd,l7 (by simp only[cB,cG];omega) hsz (by simp[ee,uW])];simp only[pk,cL];rw[<-he,<-hnext];exact ih (n+1) bu
def TH {us:List T}(g:Good e us)(hul:us.length=e.length)(hne:e≠[])(hle:e.length<=1000)(htx: ∀x∈e,x.args.length<=1000):
 ∃t,us[e.length-1]? =some t/\(ev E).call 114 [LV.cv (CV.sl (ct e))] μ=some (.ret (LV.cv t.cv) μ):=by
 have hpos:0<e.length:=AT.2 hne;have loop: ∀(m j:Nat),j+m=e.length->Iv (ev E) (ct e) e.length (ct e) (e.length:Int) (j:Int) (pB us e.length j) μ=some (yG (ct e) e.length (pB us e.length e.length) μ):=by
  intro m
  induction m with
  |zero=>intro j hj;refine dy ?_;rw[JZ,zo bu,bW,show j=e.length by omega]|succ m ih=>
   intro j hj;have hlt:j<e.length:=bu;have hx:e[j]? =some e[j]:=dA hlt;have ht:us[j]? =some us[j]:=dA bu;obtain⟨k1,k2,_⟩:=g.arg ht hx;obtain⟨_,_,_,a4,_,_⟩:=oe k2;have hin:=tU a4;have hal:=htx e[j] (q7 hlt)
   have h7 := T7 (μ := μ) (us := us) (N := e.length) (j := j) hul hle hlt (xs := ct e) (x12 := ct e) (x4 := (j : Int)) (x13 := (e.length : Int)) (x14 := (j : Int)) (p0 := e[j].kind) (p1 := e[j].typ) (p2 := e[j].text) (p3 := cJ e[j].args) (q0 := e[j].kind) (q1 := e[j].typ) (q2 := e[j].text) (l := e[j].args) hal (by
    intro a ha;have:=hin a ha
    simpa[Gb (show j<=us.length by omega)]using this) e[j].args.length 0 bu
   have e0:((0:Nat):Int)=0:=rfl;have en:bT (([]:List Int).map (fG (us.take j)))=[]:=by rw[iC,bT]
   rw[e0,List.take_zero,en]at h7;have hcv:us[j].cv=CV.view [bD e[j].kind,bD e[j].typ,CV.str e[j].text,CV.sl (bT (e[j].args.map (fG (us.take j))))]:=by rw[k1];exact na _
   have hb:Nat.ble (0+j*1+1) (pB us e.length j).length=true:=vO (by rw[VK hul bu];omega);have hce:CV.cells us[j].cv=[us[j].cv]:=by rw[na];rfl
   refine dy ?_;rw[JZ,zp hlt,bY,ml,hx,d8,bA,lO,lc,h7,bA,MS,tV bu bu,cL,<-hcv,uW,ti,hb,hce,gU bu];simp only[pk,cL];rw[show 0+j*1=j by omega,VL hul hlt ht];exact ih (j+1) bu
 have ht:us[e.length-1]? =some us[e.length-1]:=dA bu;refine⟨us[e.length-1],ht,b8 ?_⟩;have hl:=loop e.length 0 bu;have e0:((0:Nat):Int)=0:=rfl;have ea:pB us e.length 0=kc (Int.toNat (e.length:Int)) [CV.v (.pointer none)]:=by rw[CX,ti];rfl
 rw[e0,ea]at hl;have b1:(decide (0<=(e.length:Int))&&decide ((e.length:Int)<=(1000000000:Int)))=true:=cr;have hcast:(e.length:Int) -1=((e.length-1:Nat):Int):=bu;have hget:=abh (IH (us:=us) (N:=e.length) (j:=e.length) (k:=e.length-1) bu ht);have hcv:cx (LV.cv us[e.length-1].cv)=some us[e.length-1].cv:=rfl;rw[ab1,qJ,b1,cL,ti]at*;rw[hl,bA,MR,qJ,gA bu bu,hcast,tV bu bu,cL,ti,hget,bA,hcv,bA]
def GB {e:List Nd}(h:(jj e).2=0):e≠[]/\e.length<=120/\ ∃us,nP e []= .inr us/\Good e us/\us.length=e.length/\ ∃x,e.getLast?=some x/\x.kind≠3:=by
 unfold jj at h;split at h
 ·cases h
 rename_i h0;split at h
 ·cases h
 rename_i h1;refine⟨h0,bu,?_⟩;cases hr:nP e []with
 |inl q=>
  exfalso;rw[hr]at h;dsimp only at h;have key: ∀(r:List Nd) (ts:List T) (q:Int×Int),nP r ts= .inl q->q.2≠0:=by
   intro r
   induction r with
   |nil=>intro ts q h;cases h|cons x r ih=>
    intro ts q h;rw[nP]at h;split at h
    ·rename_i hx;injection h with h;subst h;exact hx
    ·exact ih _ _ h
  exact key e [] q hr h
 |inr us=>
  obtain⟨g,hul⟩:=zS e.length [] us (Good.nil e) bG (by simpa using hr);refine⟨us,rfl,g,hul,?_⟩;rw[hr]at h;dsimp only at h;unfold Jf at h;cases hl:e.getLast? with|none=>exact absurd (List.getLast?_eq_none_iff.1 hl) h0|some x=>rw[hl]at h;dsimp only at h;refine⟨x,rfl,λh3=> ?_⟩;rw[bK (.inl h3)]at h;cases h
def abT (htx: ∀x∈e,x.text.length<=200000/\x.args.length<=1000)(hle:e.length<=100000):
 ((jj e).2≠0->(ev E).call 64 [LV.cv (CV.sl (ct e))] μ=some (.ret (.ltup [LV.cv (CV.v (.pointer none)),bv (jj e).2]) μ))/\
 ((jj e).2=0-> ∃(t:T) (x:Nd),e.getLast?=some x/\t.kind=x.kind/\x.kind≠3/\0<=x.kind/\x.kind<25/\(ev E).call 64 [LV.cv (CV.sl (ct e))] μ=some (.ret (.ltup [LV.cv t.cv,bv 0]) μ)):=by
 have h33:=X3 (μ:=μ) htx hle;refine⟨λh=>b8 ?_,λh=> ?_⟩
 ·rw[WA,h33];simp only[bU];rw[show decide ((jj e).2=0)=false by simp[h]];rfl
 ·obtain⟨h0,h1,us,hr,g,hul,x,hx,h3⟩:=GB h;obtain⟨t,ht,h114⟩:=TH (μ:=μ) g hul h0 bu (λx hx=>(htx x hx).2);have hpos:0<e.length:=AT.2 h0;have hx':e[e.length-1]? =some x:=by rw[<-List.getLast?_eq_getElem?];exact hx
  have hkd:=g.kind ht;obtain⟨k1,_,_⟩:=g.arg ht hx';have ek:t.kind=x.kind:=by rw[k1];rfl
  refine⟨t,x,hx,ek,h3,bu,bu,b8 ?_⟩;have hcv:cx (LV.cv t.cv)=some t.cv:=rfl;rw[WA,h33,h];simp only[bU];simp only[g0,db,bW];rw[h114];simp only[bU];rw[hcv];rfl
end
def EH (e:List Nd):Option T:=match nP e []with| .inr us=>us[e.length-1]? | .inl _=>none
section
variable {e:List Nd}{μ:Mu}
def aaI (htx: ∀x∈e,x.text.length<=200000/\x.args.length<=1000)(hle:e.length<=100000)(h:(jj e).2=0):
 ∃t,EH e=some t/\(ev E).call 64 [LV.cv (CV.sl (ct e))] μ=some (.ret (.ltup [LV.cv t.cv,bv 0]) μ):=by
 have h33:=X3 (μ:=μ) htx hle;obtain⟨h0,h1,us,hr,g,hul,x,hx,h3⟩:=GB h;obtain⟨t,ht,h114⟩:=TH (μ:=μ) g hul h0 bu (λx hx=>(htx x hx).2);refine⟨t,by unfold EH;rw[hr];exact ht,b8 ?_⟩;have hcv:cx (LV.cv t.cv)=some t.cv:=rfl;rw[WA,h33,h];simp only[bU];simp only[g0,db,bW];rw[h114];simp only[bU];rw[hcv];rfl
def Wl (br:Bool)(t:T):List UInt8×Int:=if 1320<(prT br t).length then([],8)else(prT br t,0)
def CC (br:Bool)(e:List Nd):List UInt8×Int:=
 if(jj e).2≠0 then([],(jj e).2)else match EH e with|some t=>Wl br t|none=>([],0)
def Wm (q:List UInt8×Int):LV:= .ltup [LV.str q.1,bv q.2]
def Qg (br:Bool)(e:List Nd):Prop:= ∀t,EH e=some t->FN t=true/\t.len<=1000000/\(prT br t).length<=1000000/\prT br t≠[]
def abP {br:Bool}(htx: ∀x∈e,x.text.length<=200000/\x.args.length<=1000)(hle:e.length<=100000)(hok:(jj e).2=0->Qg br e):
 (ev E).call 53 [LV.cv (CV.sl (ct e)),LV.bool br] μ=some (.ret (Wm (CC br e)) μ):=by
 have gs: ∀c:CV,cx (LV.cv c)=some c:=λ_=>rfl;refine b8 ?_;unfold CC;by_cases h:(jj e).2=0
 ·obtain⟨t,ht,h64⟩:=aaI (μ:=μ) htx hle h;obtain⟨p1,p2,p3,p4⟩:=hok h t ht;rw[bE (by simp[h]),ht];dsimp only;obtain⟨ν,⟨a,x,ha,hx,rfl⟩,h87⟩:=US t.len t (cw _) p2 p1 br (μ++[[Ob.cells [LV.cv (CV.v (.pointer none)),LV.cv (CV.v (.slice none 0 0))]]]) μ.length 0 [] ⟨aa1,zE,.inl rfl,.inr ⟨rfl,rfl⟩,by rw[cV];rfl⟩ (by simpa using p3);rw[fb]at hx;obtain rfl:x=LV.osl (dg (prT br t)):=hx.resolve_right λq=>p4 q.2;have etop:cq (μ++[[Ob.cells [LV.cv (CV.v (.pointer none)),LV.cv (CV.v (.slice none 0 0))]]]) μ.length 0 (bX a (LV.osl (dg (prT br t))))=μ++[[bO a (prT br t)]]:=Ld;rw[etop]at h87
  have h4 : XE (ev E) br t.cv μ = some (if 1320 < (prT br t).length then B8 [] 8 a (dg (prT br t)) μ else B9 (prT br t) 0 [.dead] μ) := cm (by
   rw[Zm,h87,bL,dM,bA,d9,bA,cT,bA,Yg]
   have h6 : XF (ev E) [bO a (prT br t)] μ = some (if 1320 < (prT br t).length then Ca [] 8 a (dg (prT br t)) μ else Cb (prT br t) 0 [.dead] μ) := cm (by
    have h88:=abY (b:=μ) (a:=a) (bs:=prT br t) (r:=[]);have h89:=abZ (b:=μ) (a:=a) (bs:=prT br t) (r:=[]);unfold bO at h88 h89 |-;rw[Zn,h88,bL,dM,bA,dH,bA];have ob: ∀k:Lam->Option St,_:=λk=>Yg (a:=a) (bs:=prT br t) (r:=[]) (α:=St) (k:=k);unfold bO at ob;rw[ob];by_cases hz:1320<(prT br t).length
    ·have h7 : Pz (ev E) (decide ((1320 : Int) < ((prT br t).length : Int))) [Ob.cells [LV.cv a, LV.osl (dg (prT br t))]] μ = some (Cc [] 8 a (dg (prT br t)) μ) := cm (by
      rw[OX,cu bu,bY])
     rw[h7,bA,QO,bK hz]
    ·have h7 : Pz (ev E) (decide ((1320 : Int) < ((prT br t).length : Int))) [Ob.cells [LV.cv a, LV.osl (dg (prT br t))]] μ = some (Cd a (dg (prT br t)) μ) := cm (by
      rw[OX,cE bu,bW])
     have h8 : XG (ev E) [Ob.cells [LV.cv a, LV.osl (dg (prT br t))]] μ = some (Ce (prT br t) 0 [.dead] μ) := cm (by
      rw[Zo,h89,bL,dM,bA,dw,bA])
     rw[h7,bA,QP,h8,bA,QQ,bE hz])
   rw[h6,bA];by_cases hz:1320<(prT br t).length
   ·rw[bK hz,bK hz,QM]
   ·rw[bE hz,bE hz,QN])
  rw[aaU,h64,bL];simp only[bU];rw[gs];simp only[bU];simp only[g0,db,bW];rw[h4,bA];unfold Wl;by_cases hz:1320<(prT br t).length
  ·rw[bK hz,bK hz,QK];rfl
  ·rw[bE hz,bE hz,QL];rfl
 ·rw[bK h,aaU,(abT (μ:=μ) htx hle).1 h,bL];simp only[bU];rw[gs];simp only[bU];rw[cE h];rfl
def abN (htx: ∀x∈e,x.text.length<=200000/\x.args.length<=1000)(hle:e.length<=100000)(hok:(jj e).2=0->Qg true e):
 (ev E).call 22 [LV.cv (CV.sl (ct e))] μ=some (.ret (Wm (CC true e)) μ):=by
 refine b8 ?_;rw[ad6,abP htx hle hok,bL];rfl
end
def aai:List Nd:=[⟨1,0,[65],[]⟩,⟨1,0,[66],[]⟩,⟨1,0,[67],[]⟩,⟨10,0,[],[1,2]⟩,⟨12,0,[],[0,3]⟩]
def aeC:(evn (ovE xe) 200).call 22 [LV.cv (CV.sl (ct aai))] []=some (.ret (LV.ltup [LV.str ([91,65,43,91,66,42,67,93,93]:List UInt8),bv 0]) []):=bx
def exC:List Nd:=[⟨1,0,[65],[]⟩,⟨1,0,[66],[]⟩,⟨10,0,[],[0,1]⟩,⟨5,0,[],[2]⟩,⟨5,0,[],[3]⟩,⟨1,0,[67],[]⟩,⟨5,0,[],[5]⟩,⟨12,0,[],[4,6]⟩]
def exD:List Nd:=[⟨1,0,[65],[]⟩,⟨1,0,[66],[]⟩,⟨10,0,[],[0,1]⟩,⟨1,0,[67],[]⟩,⟨12,0,[],[2,3]⟩]
def aeF:(evn (ovE xe) 200).call 13 [LV.str ([40,40,65,42,66,41,41,43,40,67,41]:List UInt8)] []=some (.ret (LV.ltup [LV.cv (CV.sl (ct exC)),bv 0]) []):=bx
def aeG:(evn (ovE xe) 200).call 26 [LV.cv (CV.sl (ct exC))] []=some (.ret (LV.ltup [LV.cv (CV.sl (ct exD)),bv 0]) []):=bx
def aeH:(evn (ovE xe) 200).call 16 [LV.cv (CV.sl (ct exD))] []=some (.ret (LV.ltup [LV.str ([65,42,66,43,67]:List UInt8),bv 0]) []):=bx
def exB:List Nd:=[⟨1,0,[73],[]⟩,⟨0,0,[50],[]⟩,⟨1,0,[78],[]⟩,⟨3,0,[],[1,2,-1]⟩,⟨2,0,[88],[0,3]⟩,⟨0,1,[49,46,53],[]⟩,⟨0,0,[50],[]⟩,⟨7,0,[],[6]⟩,⟨4,0,[],[5,7]⟩,⟨15,0,[],[4,8]⟩]
def tkB:List Tok:=[⟨0,0,[88]⟩,⟨2,0,[40]⟩,⟨0,0,[73]⟩,⟨2,0,[44]⟩,⟨1,0,[50]⟩,⟨2,0,[58]⟩,⟨0,0,[78]⟩,⟨2,0,[41]⟩,⟨2,0,[46,76,84,46]⟩,⟨2,0,[40]⟩,⟨1,1,[49,46,53]⟩,⟨2,0,[44]⟩,⟨2,0,[45]⟩,⟨1,0,[50]⟩,⟨2,0,[41]⟩]
def aeD:(evn (ovE xe) 200).call 18 [LV.cv (CV.sl (tkB.map Tok.cv))] []=some (.ret (LV.ltup [LV.cv (CV.sl (ct exB)),bv 15,bv 0]) []):=bx
def aeE:(evn (ovE xe) 200).call 16 [LV.cv (CV.sl (ct exB))] []=some (.ret (LV.ltup [LV.str ([88,40,73,44,50,58,78,41,46,76,84,46,40,49,46,53,44,45,50,41]:List UInt8),bv 0]) []):=bx
def exA:List Nd:=[⟨1,0,[65],[]⟩,⟨1,0,[66],[]⟩,⟨1,0,[67],[]⟩,⟨10,0,[],[1,2]⟩,⟨12,0,[],[0,3]⟩]
def aeB:(evn (ovE xe) 200).call 13 [LV.str ([97,32,43,32,98,42,99]:List UInt8)] []=some (.ret (LV.ltup [LV.cv (CV.sl (ct exA)),bv 0]) []):=bx
def Xd {s:List UInt8}{l:List Tok}{e:List Nd}(hs:s.length<=200000)(h1:dZ false s=l)(h2:(dJ false s).e=0)(h3:(ev E).call 18 [LV.cv (CV.sl (l.map Tok.cv))] []=some (.ret (LV.ltup [LV.cv (CV.sl (ct e)),bv (l.length:Int),bv 0]) [])):
 (ev E).call 13 [LV.str s] []=some (.ret (LV.ltup [LV.cv (CV.sl (ct e)),bv 0]) []):=by
 refine b8 ?_;have h51:=HT (μ:=[]) hs;have et:cj l=l.map Tok.cv:=rfl;rw[h1,h2,et]at h51;have hG7:Py (ev E) (l.map Tok.cv) (ct e) (l.length:Int) []=some (sy (ct e) 0 []):=by refine cm ?_;rw[OW,show decide ((l.length:Int)<((l.map Tok.cv).length:Int))=false by simp,bW]
 have hG:HI (ev E) (l.map Tok.cv) []=some (pw (ct e) 0 []):=by refine cm ?_;rw[FE,h3];simp only[bU];rw[hG7];simp only[g0,db,bW,bA];exact D9 _ _ _ _
 rw[QF,h51];simp only[bU];rw[hG];simp only[g0,db,bW,bA];exact xc _ _ _ _
def txB:List UInt8:=[120,40,105,44,50,58,110,41,32,46,108,116,46,32,40,49,46,53,44,45,50,41]
def abk:dZ false txB=tkB:=by decide+kernel
def ZJ:(dJ false txB).e=0:=by decide+kernel
def abK:(ev E).call 12 [] []=some (.ret (LV.bool true) []):=by refine b8 ?_;have r1:=nM pU aeB;have r2:=nM pU aeC;have r3:=Xd (s:=txB) co abk ZJ (nM pU aeD);have r4:=nM pU aeE;have r5:=nM pU aeF;have r6:=nM pU aeG;have r7:=nM pU aeH;have e2:aai=exA:=rfl;rw[e2]at r2;unfold txB at r3;rw[ad4,r1];simp only[bU];rw[r2];simp only[bU];rw[r3];simp only[bU];rw[r4];simp only[bU];rw[r5];simp only[bU];rw[r6];simp only[bU];rw[r7];simp only[bU];rfl
section
variable {μ:Mu}{e:List Nd}
end
def vh (s:List UInt8):List Nd×Int:=
 if(dJ false s).e≠0 then([],(dJ false s).e)else
 if(fA (dZ false s)).2.2≠0 then([],(fA (dZ false s)).2.2)else
 if(fA (dZ false s)).2.1<((dZ false s).length:Int)then([],7)else((fA (dZ false s)).1,0)
def Rs (s:List UInt8):Bool:=decide (s.length<=200000)&&(decide ((dZ false s).length<=100000)&&(dZ false s).all λt=>decide (t.text.length<=200000))
def We (e : List Nd) : Bool := decide (e.length <= 100000) && ((e.all λx => decide (x.text.length <= 200000) && decide (x.args.length <= 1000)) &&
 match EH e with|some t=>FN t&&(decide (t.len<=1000000)&&(decide ((prT true t).length<=1000000)&& !(prT true t).isEmpty))|none=>true)
def gF (s:List UInt8):List UInt8:=s.filter λc=> !decide ((c.toNat:Int)=40)&& !decide ((c.toNat:Int)=41)
def s1 (x y:List UInt8):List UInt8:=(((([65]:List UInt8)++x)++([66]:List UInt8))++y)++([67]:List UInt8)
def wR (x y:List UInt8):List UInt8:=(((([91,65]:List UInt8)++x)++([91,66]:List UInt8))++y)++([67,93,93]:List UInt8)
def dR (x y:List UInt8):List UInt8:=(((([65]:List UInt8)++x)++([40,66]:List UInt8))++y)++([67,41]:List UInt8)
def wL (x y:List UInt8):List UInt8:=(((([91,91,65]:List UInt8)++x)++([66,93]:List UInt8))++y)++([67,93]:List UInt8)
def dL (x y:List UInt8):List UInt8:=(((([40,65]:List UInt8)++x)++([66,41]:List UInt8))++y)++([67]:List UInt8)
def s2 (g x:List UInt8):List UInt8:=((g++([65]:List UInt8))++x)++([66]:List UInt8)
def wI (g x:List UInt8):List UInt8:=(((([91]:List UInt8)++g)++([91,65]:List UInt8))++x)++([66,93,93]:List UInt8)
def wO (g x:List UInt8):List UInt8:=(((([91,91]:List UInt8)++g)++([65,93]:List UInt8))++x)++([66,93]:List UInt8)
def lu (a b:Int):Bool:=decide (kC b<kC a)||(decide (kC a=kC b)&& !decide (a=9))
def aag (e:List Nd)(p:List UInt8->Bool):Bool:=We e&&(decide ((CC true e).2=0)&&p (CC true e).1)
def pF (s:List UInt8)(p:List UInt8->Bool):Bool:=Rs s&&(decide ((vh s).2=0)&&aag (vh s).1 p)
def k9 (a b:Int):Bool:=
 if kC a=5/\kC b=5 then Rs (s1 (cz a) (cz b))&&decide ((vh (s1 (cz a) (cz b))).2=7)else
 match lu a b with
 |true=>pF (s1 (cz a) (cz b)) (λw=>decide (w=wL (cz a) (cz b)))&&pF (dL (cz a) (cz b)) (λw=>decide (gF w=wL (cz a) (cz b)))|false=>pF (s1 (cz a) (cz b)) (λw=>decide (w=wR (cz a) (cz b)))&&pF (dR (cz a) (cz b)) (λw=>decide (gF w=wR (cz a) (cz b)))
def sgT (n:Nat):List UInt8:=match n with|0=>[43]|1=>[45]|_=>[46,78,79,84,46]
def sgL (n:Nat):Int:=match n with|0=>7|1=>7|_=>4
def aaf (a:Int)(n:Nat):Bool:=pF (s2 (sgT n) (cz a)) (λw=>decide (w=if sgL n<kC a then wI (sgT n) (cz a)else wO (sgT n) (cz a)))
def YL:((List.range 16).all λj=>k9 ((9+0:Nat):Int) ((9+j:Nat):Int))=true:=bx
def YM:((List.range 16).all λj=>k9 ((9+1:Nat):Int) ((9+j:Nat):Int))=true:=bx
def YN:((List.range 16).all λj=>k9 ((9+2:Nat):Int) ((9+j:Nat):Int))=true:=bx
def YO:((List.range 16).all λj=>k9 ((9+3:Nat):Int) ((9+j:Nat):Int))=true:=bx
def YP:((List.range 16).all λj=>k9 ((9+4:Nat):Int) ((9+j:Nat):Int))=true:=bx
def YQ:((List.range 16).all λj=>k9 ((9+5:Nat):Int) ((9+j:Nat):Int))=true:=bx
def YR:((List.range 16).all λj=>k9 ((9+6:Nat):Int) ((9+j:Nat):Int))=true:=bx
def YS:((List.range 16).all λj=>k9 ((9+7:Nat):Int) ((9+j:Nat):Int))=true:=bx
def YT:((List.range 16).all λj=>k9 ((9+8:Nat):Int) ((9+j:Nat):Int))=true:=bx
def YU:((List.range 16).all λj=>k9 ((9+9:Nat):Int) ((9+j:Nat):Int))=true:=bx
def VX:((List.range 16).all λj=>k9 ((9+10:Nat):Int) ((9+j:Nat):Int))=true:=bx
def VY:((List.range 16).all λj=>k9 ((9+11:Nat):Int) ((9+j:Nat):Int))=true:=bx
def VZ:((List.range 16).all λj=>k9 ((9+12:Nat):Int) ((9+j:Nat):Int))=true:=bx
def V3:((List.range 16).all λj=>k9 ((9+13:Nat):Int) ((9+j:Nat):Int))=true:=bx
def V4:((List.range 16).all λj=>k9 ((9+14:Nat):Int) ((9+j:Nat):Int))=true:=bx
def V5:((List.range 16).all λj=>k9 ((9+15:Nat):Int) ((9+j:Nat):Int))=true:=bx
def VW: ∀i<16,((List.range 16).all λj=>k9 ((9+i:Nat):Int) ((9+j:Nat):Int))=true:=by
 intro i hi
 match i,hi with
 |0,_=>exact YL|1,_=>exact YM|2,_=>exact YN|3,_=>exact YO|4,_=>exact YP|5,_=>exact YQ|6,_=>exact YR|7,_=>exact YS|8,_=>exact YT|9,_=>exact YU|10,_=>exact VX|11,_=>exact VY|12,_=>exact VZ|13,_=>exact V3|14,_=>exact V4|15,_=>exact V5|n+16,h=>exact absurd h bu
def V6:((List.range 16).all λi=>(List.range 3).all λn=>aaf ((9+i:Nat):Int) n)=true:=bx
def YK {a b:Int}(h1:9<=a)(h2:a<=24)(h3:9<=b)(h4:b<=24):k9 a b=true:=by
 have h:=j2.1 (VW (a.toNat-9) bu) (b.toNat-9) (Gp.2 bu)
 rwa [show ((9+(a.toNat-9):Nat):Int)=a by omega,show ((9+(b.toNat-9):Nat):Int)=b by omega]at h
def YV {a:Int}{n:Nat}(h1:9<=a)(h2:a<=24)(h3:n<3):aaf a n=true:=by
 have h:=j2.1 (j2.1 V6 (a.toNat-9) (Gp.2 bu)) n (Gp.2 h3)
 rwa [show ((9+(a.toNat-9):Nat):Int)=a by omega]at h
section
variable {μ:Mu}
def XY {s:List UInt8}(hs:Rs s=true): ∃v,cR v=some (ct (vh s).1)/\(ev E).call 13 [LV.str s] μ=some (.ret (.ltup [v,bv (vh s).2]) μ):=by
 unfold Rs at hs;simp only[cM,dn,j2]at hs;obtain⟨h1,h2,h3⟩:=hs;unfold vh;by_cases h:(dJ false s).e=0
 ·rw[bE (by simp[h])];obtain⟨v,hv,h18⟩:=abM (μ:=μ) (l:=dZ false s) h2 h3;by_cases h':(fA (dZ false s)).2.2=0
  ·rw[bE (by simp[h'])];refine⟨LV.cv (CV.sl (if(fA (dZ false s)).2.1<((dZ false s).length:Int)then []else ct (fA (dZ false s)).1)),by split<;>rfl,b8 ?_⟩;rw[QF,HT h1,bL];simp only[bU];rw[h,cu rfl,db,bW]
   have h7 : ∀ l, Py (ev E) (cj (dZ false s)) l (fA (dZ false s)).2.1 μ = some (sy (if (fA (dZ false s)).2.1 < ((dZ false s).length : Int) then [] else l) (if (fA (dZ false s)).2.1 < ((dZ false s).length : Int) then 7 else 0) μ) := λl => cm (by
    rw[OW,xy];by_cases hh:(fA (dZ false s)).2.1<((dZ false s).length:Int)
    ·rw[cu hh,bY,bK hh,bK hh]
    ·rw[cE hh,bW,bE hh,bE hh])
   have h4 : HI (ev E) (cj (dZ false s)) μ = some (pw (if (fA (dZ false s)).2.1 < ((dZ false s).length : Int) then [] else ct (fA (dZ false s)).1) (if (fA (dZ false s)).2.1 < ((dZ false s).length : Int) then 7 else 0) μ) := cm (by
    rw[FE,h18,bL];simp only[bU]
    rw[hv,bA,h',cu rfl,db,bW,h7,bA,D9])
   rw[h4,bA,xc];by_cases hh:(fA (dZ false s)).2.1<((dZ false s).length:Int)
   ·rw[bK hh,bK hh,bK hh]
   ·rw[bE hh,bE hh,bE hh]
  ·rw[bK h'];refine⟨LV.cv (CV.sl []),rfl,b8 ?_⟩
   have h4 : HI (ev E) (cj (dZ false s)) μ = some (pw [] (fA (dZ false s)).2.2 μ) := cm (by
    rw[FE,h18,bL];simp only[bU]
    rw[hv,bA,cE h',dF,bY])
   rw[QF,HT h1,bL];simp only[bU];rw[h,cu rfl,db,bW,h4,bA,xc]
 ·rw[bK h];refine⟨zE,rfl,b8 ?_⟩;rw[QF,HT h1,bL];simp only[bU];rw[cE h,dF,bY];rfl
def XZ {a:Int}(h1:9<=a)(h2:a<=24):(ev E).call 31 [bv a] μ=some (.ret (LV.str (cz a)) μ):=by refine b8 ?_;rw[ad9];have:a=9\/a=10\/a=11\/a=12\/a=13\/a=14\/a=15\/a=16\/a=17\/a=18\/a=19\/a=20\/a=21\/a=22\/a=23\/a=24:=bu;rcases this with rfl|rfl|rfl|rfl|rfl|rfl|rfl|rfl|rfl|rfl|rfl|rfl|rfl|rfl|rfl|rfl<;>rfl
def abO {s:List UInt8}(hs:s.length<=200000):(ev E).call 29 [LV.str s] μ=some (.ret (LV.str (gF s)) μ):=by
 refine b8 ?_;have loop: ∀(r d:List UInt8),s=d++r->Da (ev E) s (gF d) (d.length:Int) μ=some (Ck (gF s) μ):=by
  intro r
  induction r with
  |nil=>intro d hd;refine dy ?_;rw[eU]at hd;subst hd;rw[O2,cE bu,bW]|cons c r ih=>
   intro d hd;have hl:s.length=d.length+(r.length+1):=by rw[hd];simp
   have hb:(gF d).length<=d.length:=List.length_filter_le _ _;have hn:=ih (d++[c]) (by rw[hd];simp);have hat:km s (d.length:Int)=some c:=by rw[qW,hd];simp
   have hcut:ku s (d.length:Int) ((d.length:Int)+1)=some [c]:=by rw[show (d.length:Int)+1=((d.length+1:Nat):Int)by omega,uT bu bu,hd];simp
   have hw:IntKind.wrap .i64 ((d.length:Int)+1)=((d++[c]).length:Int):=by rw[gU bu];simp
   have hw':((d++[c]).length:Int)=(d.length:Int)+1:=bG;have hbc:gF (d++[c])=gF d++gF [c]:=by unfold gF;rw[List.filter_append]
   refine dy ?_;rw[O2,cu bu,bY,hat,bA,hw];by_cases h40:(c.toNat:Int)=40
   ·have hc:gF [c]=[]:=by unfold gF;simp[h40]
    rw[cu h40,db,bW];rw[hbc,hc,eU]at hn;exact hn
   ·rw[cE h40,dF,bY,bA];by_cases h41:(c.toNat:Int)=41
    ·have hc:gF [c]=[]:=by unfold gF;simp[h41]
     rw[cu h41,db,bW];rw[hbc,hc,eU]at hn;exact hn
    ·have hc:gF [c]=[c]:=by unfold gF;simp[h40,h41]
     rw[cE h41,dF,bY,hw',hcut,bA,fC cr,cL,<-hw'];rw[hbc,hc]at hn;exact hn
 have h0:=loop s [] rfl;have e0:(([]:List UInt8).length:Int)=0:=rfl;have e1:gF []=[]:=rfl;rw[e0,e1]at h0;rw[ad7,h0,bA,Q5]
def gS {α:Type}{n:Nat}{k:Option α}(h:n<=100000):bB (small n) k=k:=by rw[fC bu,cL]
def Y0 {br:Bool}{e:List Nd}:(CC br e).1.length<=1320:=by
 unfold CC;split
 ·simp
 ·split
  ·unfold Wl;split
   ·simp
   ·dsimp only;omega
  ·simp
def Wf {e:List Nd}(h:We e=true):e.length<=100000/\(∀x∈e,x.text.length<=200000/\x.args.length<=1000)/\Qg true e:=by unfold We at h;simp only[cM,dn,j2]at h;obtain⟨h1,h2,h3⟩:=h;refine⟨h1,h2,λt ht=> ?_⟩;rw[ht]at h3;simp only[cM,dn,jv,List.isEmpty_eq_false_iff]at h3;exact⟨h3.1,h3.2.1,h3.2.2.1,h3.2.2.2⟩
structure RW (μ:Mu) (s:List UInt8) (e:List Nd) (w:List UInt8) (v:LV):Prop where
 sl:cR v=some (ct e)
 rd:(ev E).call 13 [LV.str s] μ=some (.ret (.ltup [v,bv 0]) μ)
 cp:(ev E).call 17 [LV.cv (CV.sl (ct e))] μ=some (.ret (LV.osl (ct e)) μ)
 wr:(ev E).call 22 [LV.cv (CV.sl (ct e))] μ=some (.ret (.ltup [LV.str w,bv 0]) μ)
 len:w.length<=1320
def wH {s:List UInt8}{p:List UInt8->Bool}(h:pF s p=true): ∃e w v,RW μ s e w v/\p w=true:=by unfold pF aag at h;simp only[cM,dn]at h;obtain⟨h1,h2,h3,h4,h5⟩:=h;obtain⟨v,hv,h13⟩:=XY (μ:=μ) h1;obtain⟨l1,l2,l3⟩:=Wf h3;rw[h2]at h13;have h22:=abN (μ:=μ) l2 l1 λ_=>l3;unfold Wm at h22;rw[h4]at h22;exact⟨_,_,v,⟨hv,h13,abL l1 λx hx=>(l2 x hx).2,h22,Y0⟩,h5⟩
theorem gst {x:List UInt8}:cf (LV.cv (CV.str x))=some x:=rfl
theorem gin {x:Int}:bI .i64 (LV.cv (bD x))=some x:=rfl
theorem d00:decide ((0:Int)=0)=true:=rfl
def abm {n:Nat}:(sgT n).length<=5:=by unfold sgT;split<;>simp
def abJ {g x : List UInt8} (hg : g.length <= 1000) (hx : x.length <= 1000) : XM (ev E) x g 0 (wO g x) 0 μ = some (sE true μ) := cm (by
 rw[Zv,d00,bY,bY,gS (by simp only[cC,cB,cG];omega),gS (by simp only[cC,cB,cG];omega),gS (by simp only[cC,cB,cG];omega),gS (by simp only[cC,cB,cG];omega)]
 rw[show decide (wO g x=(((([91,91]:List UInt8)++g)++([65,93]:List UInt8))++x)++([66,93]:List UInt8))=true from cu rfl])
def abI {a c:Int}(h1:9<=a)(h2:a<=24)(hc:0<=c):XL (ev E) a c (cz a) μ=some (pz true μ):=by
 obtain⟨n,h3,hn⟩: ∃n:Nat,Int.tmod c 3=(n:Int)/\n<3:=⟨(Int.tmod c 3).toNat,by rw[Pu hc];omega,by rw[Pu hc];omega⟩;obtain⟨e,w,v,R,hw⟩:=wH (μ:=μ) (YV h1 h2 hn);have hw:=nt hw;have hx:(cz a).length<=1000:=nK;have hg:=abm (n:=n);have e1:dr [CV.str ([43]:List UInt8),CV.str ([45]:List UInt8),CV.str ([46,78,79,84,46]:List UInt8)] (Int.tmod c (3:Int))=some (CV.str (sgT n)):=by
  rw[h3]
  match n,hn with
  |0,_=>rfl|1,_=>rfl|2,_=>rfl|n+3,h=>exact absurd h bu
 have e2:dr [bD (7:Int),bD (7:Int),bD (4:Int)] (Int.tmod c (3:Int))=some (bD (sgL n)):=by
  rw[h3]
  match n,hn with
  |0,_=>rfl|1,_=>rfl|2,_=>rfl|n+3,h=>exact absurd h bu
 have h13:(ev E).call 13 [LV.str (((sgT n++([65]:List UInt8))++cz a)++([66]:List UInt8))] μ=some (.ret (.ltup [v,bv 0]) μ):=R.rd;refine cm ?_;rw[Zu,e1,bA,gst,bA,e2,bA,gin,bA,gS (by simp only[cC,cB,cG];omega),gS (by simp only[cC,cB,cG];omega),gS (by simp only[cC,cB,cG];omega),h13,bL];simp only[bU];rw[R.sl,bA,R.cp,bL,rY,bA,R.wr,bL];simp only[bU];rw[rF,bL,dH,bA];by_cases hl:sgL n<kC a
 ·rw[bK hl]at hw;subst hw;rw[cu hl,bY];simp only[g0,bY];rw[gS (by simp only[cC,cB,cG];omega),gS (by simp only[cC,cB,cG];omega),gS (by simp only[cC,cB,cG];omega),gS (by simp only[cC,cB,cG];omega)];rw[show decide (wI (sgT n) (cz a)=(((([91]:List UInt8)++sgT n)++([91,65]:List UInt8))++cz a)++([66,93,93]:List UInt8))=true from cu rfl]
 ·rw[bE hl]at hw;subst hw;rw[cE hl,bW,abJ bu hx,bA,QZ]
def abH {a c:Int}{w0 d:List UInt8}(h1:9<=a)(h2:a<=24)(hc:0<=c)(hd:pF d (λw=>decide (gF w=w0))=true):XK (ev E) a c (cz a) w0 d μ=some (py true μ):=by obtain⟨e,w,v,R,hw⟩:=wH (μ:=μ) hd;have hw:=nt hw;refine cm ?_;rw[Zt,R.rd,bL];simp only[bU];rw[R.sl,bA,R.cp,bL,rY,bA,R.wr,bL];simp only[bU];have hl:=R.len;simp only[g0,db,bW];rw[abO bu,bL,dw,bA,cu hw,db,bW,abI h1 h2 hc,bA,QY]
def XW {a c : Int} {w0 d : List UInt8} (h1 : 9 <= a) (h2 : a <= 24) (hc : 0 <= c) (hd : pF d (λw => decide (gF w = w0)) = true) : vU (ev E) a c (cz a) 0 w0 0 w0 d μ = some (l0 true μ) := cm (by
 rw[Zs,d00,db,bW,bW,cu rfl,db,bW,abH h1 h2 hc hd,bA,QX])
def ad0 {a b c:Int}{e:List Nd}{w:List UInt8}{v:LV}(h1:9<=a)(h2:a<=24)(h3:9<=b)(h4:b<=24)(hc:0<=c)(hne: ¬(kC a=5/\kC b=5))(R:RW μ (s1 (cz a) (cz b)) e w v)
 (hL:lu a b=true->w=wL (cz a) (cz b)/\pF (dL (cz a) (cz b)) (λw=>decide (gF w=wL (cz a) (cz b)))=true)
 (hR:lu a b=false->w=wR (cz a) (cz b)/\pF (dR (cz a) (cz b)) (λw=>decide (gF w=wR (cz a) (cz b)))=true):
 Vq (ev E) a b c (cz a) (cz b) (ct e) 0 μ=some (Ff true μ):=by
 have hx:(cz a).length<=1000:=nK;have hy:(cz b).length<=1000:=nK;have kL: ∀ν,lu a b=true->vU (ev E) a c (cz a) 0 w 0 ((((([91,91,65]:List UInt8)++cz a)++([66,93]:List UInt8))++cz b)++([67,93]:List UInt8)) ((((([40,65]:List UInt8)++cz a)++([66,41]:List UInt8))++cz b)++([67]:List UInt8)) ν=some (l0 true ν):=λν h=>by obtain⟨rfl,hd⟩:=hL h;exact XW h1 h2 hc hd
 have kR: ∀ν,lu a b=false->vU (ev E) a c (cz a) 0 w 0 ((((([91,65]:List UInt8)++cz a)++([91,66]:List UInt8))++cz b)++([67,93,93]:List UInt8)) ((((([65]:List UInt8)++cz a)++([40,66]:List UInt8))++cz b)++([67,41]:List UInt8)) ν=some (l0 true ν):=λν h=>by obtain⟨rfl,hd⟩:=hR h;exact XW h1 h2 hc hd
 refine cm ?_;rw[aa0,R.cp,bL,rY,bA,R.wr,bL];simp only[bU];rw[rF,bL,dH,bA,rF,bL,dH,bA];by_cases hl:kC b<kC a
 ·rw[cu hl,bY,gS (by simp only[cC,cB,cG];omega),gS (by simp only[cC,cB,cG];omega),gS (by simp only[cC,cB,cG];omega),gS (by simp only[cC,cB,cG];omega),gS (by simp only[cC,cB,cG];omega),gS (by simp only[cC,cB,cG];omega),gS (by simp only[cC,cB,cG];omega),gS (by simp only[cC,cB,cG];omega),gS (by simp only[cC,cB,cG];omega),gS (by simp only[cC,cB,cG];omega),gS (by simp only[cC,cB,cG];omega),gS (by simp only[cC,cB,cG];omega),gS (by simp only[cC,cB,cG];omega),gS (by simp only[cC,cB,cG];omega),gS (by simp only[cC,cB,cG];omega),gS (by simp only[cC,cB,cG];omega)];rw[kL μ (by unfold lu;rw[cu hl];rfl),bA,rI]
 ·rw[cE hl,bW,rF,bL,dH,bA,rF,bL,dH,bA];by_cases he:kC a=kC b
  ·rw[cu he,bY,gS (by simp only[cC,cB,cG];omega),gS (by simp only[cC,cB,cG];omega),gS (by simp only[cC,cB,cG];omega),gS (by simp only[cC,cB,cG];omega),gS (by simp only[cC,cB,cG];omega),gS (by simp only[cC,cB,cG];omega),gS (by simp only[cC,cB,cG];omega),gS (by simp only[cC,cB,cG];omega)];by_cases h9:a=9
   ·rw[cu h9,db,bW,kR μ (by unfold lu;rw[cE hl,cu h9,db,Bool.and_false];rfl),bA,rI]
   ·rw[cE h9,dF,bY,gS (by simp only[cC,cB,cG];omega),gS (by simp only[cC,cB,cG];omega),gS (by simp only[cC,cB,cG];omega),gS (by simp only[cC,cB,cG];omega),gS (by simp only[cC,cB,cG];omega),gS (by simp only[cC,cB,cG];omega),gS (by simp only[cC,cB,cG];omega),gS (by simp only[cC,cB,cG];omega)];rw[kL μ (by unfold lu;rw[cu he,cE h9];simp),bA,rI]
  ·rw[cE he,bW,gS (by simp only[cC,cB,cG];omega),gS (by simp only[cC,cB,cG];omega),gS (by simp only[cC,cB,cG];omega),gS (by simp only[cC,cB,cG];omega),gS (by simp only[cC,cB,cG];omega),gS (by simp only[cC,cB,cG];omega),gS (by simp only[cC,cB,cG];omega),gS (by simp only[cC,cB,cG];omega)];rw[kR μ (by unfold lu;rw[cE hl,cE he];rfl),bA,rI]
def adZ {a b c:Int}(h1:9<=a)(h2:a<=24)(h3:9<=b)(h4:b<=24)(hc:0<=c):Z2 (ev E) a b c μ=some (Ao true μ):=by
 have hx:(cz a).length<=1000:=nK;have hy:(cz b).length<=1000:=nK;have hk:=YK h1 h2 h3 h4;unfold k9 at hk;refine cm ?_;rw[aaZ,XZ h1 h2,bL,dw,bA,XZ h3 h4,bL,dw,bA,gS (by simp only[cC,cB,cG];omega),gS (by simp only[cC,cB,cG];omega),gS (by simp only[cC,cB,cG];omega),gS (by simp only[cC,cB,cG];omega)];by_cases h5:kC a=5/\kC b=5
 ·rw[bK h5]at hk;simp only[cM,dn]at hk;obtain⟨v,hv,h13⟩:=XY (μ:=μ) hk.1;rw[hk.2]at h13;have h13':(ev E).call 13 [LV.str ((((([65]:List UInt8)++cz a)++([66]:List UInt8))++cz b)++([67]:List UInt8))] μ=some (.ret (.ltup [v,bv 7]) μ):=h13;rw[h13',bL];simp only[bU];rw[hv,bA,rF,bL,dH,bA,cu h5.1,bY,rF,bL,dH,bA,cu h5.2,bY];rfl
 ·rw[bE h5]at hk;obtain⟨e,w,v,R,kL,kR⟩: ∃e w v,RW μ (s1 (cz a) (cz b)) e w v/\(lu a b=true->w=wL (cz a) (cz b)/\pF (dL (cz a) (cz b)) (λw=>decide (gF w=wL (cz a) (cz b)))=true)/\(lu a b=false->w=wR (cz a) (cz b)/\pF (dR (cz a) (cz b)) (λw=>decide (gF w=wR (cz a) (cz b)))=true):=by
   cases hI:lu a b with
   |true=>rw[hI]at hk;simp only[cM]at hk;obtain⟨e,w,v,R,hw⟩:=wH (μ:=μ) hk.1;exact⟨e,w,v,R,λ_=>⟨nt hw,hk.2⟩,λh=>(by cases h)⟩
   |false=>rw[hI]at hk;simp only[cM]at hk;obtain⟨e,w,v,R,hw⟩:=wH (μ:=μ) hk.1;exact⟨e,w,v,R,λh=>(by cases h),λ_=>⟨nt hw,hk.2⟩⟩
  have h13':(ev E).call 13 [LV.str ((((([65]:List UInt8)++cz a)++([66]:List UInt8))++cz b)++([67]:List UInt8))] μ=some (.ret (.ltup [v,bv 0]) μ):=R.rd;have h9:=ad0 h1 h2 h3 h4 hc h5 R kL kR;rw[h13',bL];simp only[bU];rw[R.sl,bA,rF,bL,dH,bA];by_cases ha:kC a=5
  ·have hb: ¬kC b=5:=λhb=>h5 ⟨ha,hb⟩;rw[cu ha,bY,rF,bL,dH,bA,cE hb,bW,h9,bA,G6]
  ·rw[cE ha,bW,h9,bA,G6]
end
def ad3 {a b c:Int}(hc:0<=c):(ev E).call 7 [bv a,bv b,LV.int .u8 c] []=some (.ret (LV.bool true) []):=by
 refine b8 ?_
 have h3 : Z1 (ev E) a b c [] = some (uM true []) := cm (by
  rw[aaY,Qp,bL,da,bA];by_cases h1:9<=a/\a<=24
  ·rw[cu h1.1,cu h1.2,pk,db,bW,Qp,bL,da,bA];by_cases h2:9<=b/\b<=24
   ·rw[cu h2.1,cu h2.2,pk,db,bW,adZ h1.1 h1.2 h2.1 h2.2 hc,bA,Uv]
   ·have:(decide (9<=b)&&decide (b<=24))=false:=cr;rw[this,dF,bY]
  ·have:(decide (9<=a)&&decide (a<=24))=false:=cr
   rw[this,dF,bY])
 rw[nf7,abK,bL,da,bA,db,bW,h3,bA,Uu]
set_option maxHeartbeats 1000000
open Go.RowKit
def sizeBuilder:(Tryz.prog.info? 130).map (·.size)=some 2:=bx
def liesBuilder:liesAt Tryz.prog Tryz.prog.depth 130 (2 / Tryz.prog.cellsOf 130) 0 130 1=true:=bx
def SP (b:Nat)(w:World)(h0:w.cell? ⟨b,0,none⟩=some (.pointer (some ⟨b,0,none⟩))):
 Calls Tryz.prog 153 #[.pointer (some ⟨b,0,none⟩)] w λe w'=>e= .returned (.tuple #[])/\w'=w:=by
 obtain⟨j,hj,_⟩:=pi.1 sizeBuilder
 go_enter Tryz.func153,Tryz.ntmps153
 go_wp2
 rw[Lib.run_neq_ptr_same w _ Tryz.underlying127 hj]
 go_wp2
 go_end0
 exact⟨rfl,rfl⟩
def P4 (b:Nat)(w:World)(h0:w.cell? ⟨b,0,none⟩=some (.pointer none))(hsh:w.shape? b=some (130,2))(hfz:w.frozen? ⟨b,0,none⟩=false):
 Calls Tryz.prog 153 #[.pointer (some ⟨b,0,none⟩)] w λe w'=>e= .returned (.tuple #[])/\w'=w.setCell ⟨b,0,none⟩ (.pointer (some ⟨b,0,none⟩)):=by
 obtain⟨j,hj,hjs⟩:=pi.1 sizeBuilder
 go_enter Tryz.func153,Tryz.ntmps153
 go_wp2
 rw[Lib.run_to_unsafe w ⟨b,0,none⟩ Tryz.underlying127 Tryz.underlying195 hj (by rw[hjs];decide) hsh (Nat.zero_lt_succ 1)];simp only[Result.andThen];rw[Gn]
 go_wp2
 rw[run_callFunc_extern Tryz.func170 bx bx bx (e:=Extern.AbiNoEscape.same) bx];rw[Lib.run_noEscape];simp only[Result.andThen];rw[Gn]
 go_wp2
 rw[Lib.run_from_unsafe w ⟨b,0,none⟩ Tryz.underlying195 Tryz.underlying127 hj hsh liesBuilder];simp only[Result.andThen];rw[Gn]
 go_wp2
 go_end0
 exact⟨rfl,rfl⟩
def Vg {b:Nat}{w:World}{p:Option Addr}{v:Value}(h0:w.cell? ⟨b,0,none⟩=some v)(hfz:w.frozen? ⟨b,0,none⟩=false):(storeVar 127 ⟨b,0,none⟩ (.pointer p)).run Tryz.prog w= .ok () (w.setCell ⟨b,0,none⟩ (.pointer p)):=by simp[storeVar,Tryz.sizeOf127,storeCells,Value.cells,run_store_pointer,stored,h0,hfz,Addr.add]
section
variable {W0 w:World}{G:Gh}{L:Nat}{μ:Mu}
def Rel.ret {args:List LV}{cargs:Array Value}{v:LV}{cv:Value}(R:Rel G L (ck args) μ cargs w)(hv:LVR G w L 0 v cv)(hno: ∀b,¬bZ v cv b):
 Rel G L (ck [v]) μ #[cv] w/\(∀b,bH G w (ck [v]) μ #[cv] b->bH G w (ck args) μ cargs b):=by
 have hob: ∀lev i,bP (μ++[(ck [v]).lam]) lev i=bP (μ++[(ck args).lam]) lev i:=λ_ _=>rfl;have hown: ∀q b,bF G w (ck [v]).fr #[cv] (μ++[(ck [v]).lam]) q b->bF G w (ck args).fr cargs (μ++[(ck args).lam]) q b:=by
  intro q b h;cases q with
  |fr t=>
   exfalso;simp only[bF,eJ]at h;cases t with|zero=>exact hno b h|succ t=>simp[bZ]at h
  |ob lev i k=>exact h
 refine⟨⟨R.lev,λt=> ?_,R.lam,R.mu,R.inj,λq q' b h h'=>R.own q q' b (hown q b h) (hown q' b h'),λq b lev i h h'=>R.apart q b lev i (hown q b h) h',R.nlt,R.nL,R.ngt⟩,λb h=> ?_⟩
 ·rw[eJ];cases t with|zero=>exact hv|succ t=>simp[LVR,VR]
 ·rcases h with⟨q,h⟩|h
  ·exact .inl ⟨q,hown q b h⟩
  ·exact .inr h
structure Bld (G:Gh) (L:Nat) (μ:Mu) (w:World) (lev i:Nat) (a b:LV) (cur:Array Value) (fz:Nat×Nat):Prop where
 lt:lev<L
 live:b7 μ lev i= .cells [a,b]
 heap:w.heap[G.β lev i]? =some (.cells cur 130 fz)
 size:cur.size=2
 unf:g9 cur fz
 O:G.O (G.β lev i)=0
 va:LVR (G.below lev) w lev 0 a (cur.getD 0 undef)
 vb:LVR (G.below lev) w lev 0 b (cur.getD 1 undef)
def SG {args:List LV}{cargs:Array Value}{lev i:Nat}{a b:LV}(R:Rel G L (ck args) μ cargs w)(ha:args[0]? =some (.cv (.tref lev i 130 2)))(hob:b7 μ lev i= .cells [a,b]):
 ∃cur fz,Bld G L μ w lev i a b cur fz/\i<G.n lev/\cargs.getD 0 undef= .pointer (some ⟨G.β lev i,0,none⟩):=by
 have h0:=R.fr 0;rw[eJ,ha]at h0;simp only[gB,LVR,VR]at h0;obtain⟨h1,h2,cur,fz,h3,h4⟩:=h0;have hlt:lev<L:=by
  rcases q8 lev L with h|h|h
  ·exact h
  ·subst h;have:=R.nL;simp[ck]at this;omega
  ·have:=R.ngt lev h;omega
 have hm:=R.mu lev i hlt;rw[hob]at hm;simp only[ObR]at hm;obtain⟨cur2,e2,fz2,k1,k2,k3,k4,k5⟩:=hm;rw[h3]at k1;obtain⟨rfl,rfl,rfl⟩:=(j4 ..).mp (gY k1);exact⟨cur,fz,⟨hlt,hob,h3,h4,k2,k3,k5 0 a rfl,k5 1 b rfl⟩,h1,h2⟩
def IG {cargs:Array Value}{v:Value}(hs:cargs.size=1)(hv:cargs.getD 0 undef=v):cargs= #[v]:=by
 apply vM
 ·simpa using hs
 ·intro j h1 h2;have:j=0:=bu;subst this;rw[d7,vN h1]at hv;simpa using hv
def UB {lev i:Nat}{o:Ob}{args:List LV}(hlt:lev<μ.length)(h:b7 μ lev i=o):bP (μ++[(ck args).lam]) lev i=o:=by rw[<-h];exact cS hlt
def abG {b:Nat}{cur:Array Value}{e:TypeId}{fz:Nat×Nat}{k:Nat}(h:w.heap[b]? =some (.cells cur e fz))(hk:k<cur.size):w.cell? ⟨b,k,none⟩=some (cur.getD k undef):=by unfold World.cell?;simp only[h];simp[d7,hk]
def Y1 {b:Nat}{cur:Array Value}{e:TypeId}{fz:Nat×Nat}{k:Nat}(h:w.heap[b]? =some (.cells cur e fz))(hk:k<cur.size)(hu:g9 cur fz):w.frozen? ⟨b,k,none⟩=false:=by have:=hu k hk;unfold World.frozen?;simp only[h];simp;omega
def KG {args:List LV}{out:Out}(h:mX 130 args μ=some out):fk E.P W0 153 args μ out:=by
 unfold mX at h;obtain⟨q,hq,h2⟩:=cK h;clear h;obtain⟨u,hu,h⟩:=cK h2;clear h2;have hargs:args=[q.1]:=by rw[eI hq,iq hu]
 rw[hargs];clear hargs hq hu;obtain⟨x,y⟩:=q;simp only at h |-;split at h<;>try(cases h;done)
 rename_i lev i t n;obtain⟨hg,h2⟩:=iu h;clear h;rw[cM]at hg;have ht:=eC hg.1;have hn:=eC hg.2;subst ht hn;refine⟨gm Tryz.func153 rfl bx,λG w cargs hs R hkn=> ?_⟩;split at h2<;>try(cases h2;done)
 rename_i a b hob;obtain⟨cur,fz,B,hin,hc0⟩:=SG R rfl hob;have hca:=IG (by simpa using hs) hc0;have hlt:lev<μ.length:=B.lt;have hcell:=abG (w:=w) B.heap (k:=0) (by rw[B.size];omega);split at h2<;>try(cases h2;done)
 ·
  injection h2 with h;subst h;have hva:=B.va;simp only[LVR,VR]at hva;rw[hva]at hcell;have hfr:=Y1 (w:=w) B.heap (k:=0) (by rw[B.size];omega) B.unf;have hsh:w.shape? (G.β lev i)=some (130,2):=by unfold World.shape?;simp only[B.heap,B.size]
  have hset:cq μ lev i (.cells [.cv (.ref lev i 0),b])++[(ck [LV.cv (CV.tref lev i 130 2)]).lam]=cq (μ++[(ck [LV.cv (CV.tref lev i 130 2)]).lam]) lev i (.cells [.cv (.ref lev i 0),b]):=(kV hlt).symm;obtain⟨w',hrun,R2,E2⟩:=R.writeOb (P:=Tryz.prog) (t:=127) (s1:=ck [LV.cv (CV.tref lev i 130 2)]) (μ1:=cq μ lev i (.cells [.cv (.ref lev i 0),b])) (lev:=lev) (i:=i) (off:=0) (v:= .cv (.ref lev i 0)) (cv:= .pointer (some ⟨G.β lev i,0,none⟩)) (o':= .cells [.cv (.ref lev i 0),b])
   (Ext.refl G w λb h=>h) (UB hlt hob) bx
   ⟨λe=>absurd e (Bb hlt),λ_=>by simp only[LVR,VR,Gh.below];exact⟨by simpa using hin,trivial⟩⟩
   (λb hb=>by simp[bZ]at hb) rfl rfl rfl kU.1 hset
  have hw:w'=w.setCell ⟨G.β lev i,0,none⟩ (.pointer (some ⟨G.β lev i,0,none⟩)):=by have h1:=Vg (p:=some ⟨G.β lev i,0,none⟩) hcell hfr;rw[hrun]at h1;injection h1
  rw[hca];refine(P4 (G.β lev i) w hcell hsh hfr).mono λe w2 ⟨h1,h2⟩=> ?_;subst h1;rw[<-hw]at h2;subst h2;obtain⟨R3,hT⟩:=R2.ret (v:= .ltup []) (cv:= .tuple #[]) ⟨#[],rfl,rfl⟩ (λb h=>by simp[bZ]at h);exact⟨G.O,R3,hca▸E2.weaken (λ_ h=>h) λb hb=>hT b hb⟩
 ·
  rename_i l j;obtain⟨hg2,h3⟩:=iu h2;rw[cM]at hg2;have hl:=eC hg2.1;have hj:=eC hg2.2;subst hl hj;injection h3 with h;subst h;have hva:=B.va;simp only[LVR,VR]at hva;rw[hva.2]at hcell;rw[hca];refine(SP (G.β l j) w hcell).mono λe w2 ⟨h1,h2⟩=> ?_;subst h1 h2;obtain⟨R3,hT⟩:=R.ret (v:= .ltup []) (cv:= .tuple #[]) ⟨#[],rfl,rfl⟩ (λb h=>by simp[bZ]at h);exact⟨G.O,R3,Ext.refl G _ (hca▸hT)⟩
end
def Nn {b g cap:Nat}{l:List UInt8}{p:Value}{fzb:Nat×Nat}{cur:Array Value}{w:World}(hbk:w.heap[b]? =some (.cells #[p,.slice (some ⟨g,0,none⟩) l.length cap] 130 fzb))(h0:l≠[])(hg:w.heap[g]? =some (.cells cur 5 (0,0)))
 (hnc:l.length<=cap) (hcm:cap<=maxLen) (hsz:l.length<=cur.size) (hcells: ∀(j:Nat) x,l[j]? =some x->w.cell? ⟨g,j,none⟩=some (.int .u8 x.toNat)):
 Calls Tryz.prog 89 #[.pointer (some ⟨b,0,none⟩)] w λe w'=>e= .returned (.string ⟨l.toArray⟩)/\w'=w.drew.freeze ⟨g,0,none⟩ l.length:=by
 have hl0:l.length≠0:=by simpa using h0
 have c1:w.drew.cell? ⟨b,1,none⟩=some (.slice (some ⟨g,0,none⟩) l.length cap):=by have:w.drew.heap[b]? =some (.cells #[p,.slice (some ⟨g,0,none⟩) l.length cap] 130 fzb):=hbk;rw[Lib.cell_of_heap this];rfl
 have hSD:(Builtin.unsafeSliceData_ #[128] 170 #[.slice (some ⟨g,0,none⟩) l.length cap]).run Tryz.prog w.drew= .ok (.pointer (some ⟨g,0,none⟩)) w.drew:=
  Lib.run_unsafeSliceData_row _ _ _ _ _ _ bu
 have hUS:(Builtin.unsafeString_ #[170,3] 9 #[.pointer (some ⟨g,0,none⟩),.int .i64 l.length]).run Tryz.prog w.drew= .ok (.string ⟨l.toArray⟩) (w.drew.freeze ⟨g,0,none⟩ l.length):=by
  refine Lib.run_unsafeString_row w.drew 170 3 9 5 Tryz.underlying170 Tryz.Builder_Extra_169.cellsByte g cur.size (by have hg':w.drew.heap[g]? =some (.cells cur 5 (0,0)):=hg;simp[World.shape?,hg']) l h0 bu (by unfold maxLen at hcm;omega) ?_;intro j x hx;have:=hcells j x hx;by_cases hj:j=0
  ·subst hj;simpa[Addr.add]using this
  ·simpa[Addr.add,hj]using this
 go_enter Tryz.func89,Tryz.ntmps89
 go_wp2
 go_region
 all_goals(go_wp2;go_ret;exact⟨rfl,rfl⟩)
def RD {b:Nat}{p:Value}{fzb:Nat×Nat}{w:World}(hbk:w.heap[b]? =some (.cells #[p,.slice none 0 0] 130 fzb)):
 Calls Tryz.prog 89 #[.pointer (some ⟨b,0,none⟩)] w λe w'=>e= .returned (.string ⟨#[]⟩)/\w'=w.drew:=by
 have hUS: ∀W q,(Builtin.unsafeString_ #[170,3] 9 #[.pointer q,.int .i64 0]).run Tryz.prog W= .ok (.string .empty) W:=λW q=>Lib.run_unsafeString_none W _ _ _ q;have c1:w.drew.cell? ⟨b,1,none⟩=some (.slice none 0 0):=by have:w.drew.heap[b]? =some (.cells #[p,.slice none 0 0] 130 fzb):=hbk;rw[Lib.cell_of_heap this];rfl
 have hSD:(Builtin.unsafeSliceData_ #[128] 170 #[.slice none 0 0]).run Tryz.prog w.drew= .ok (.pointer none) w.drew:=rfl
 go_enter Tryz.func89,Tryz.ntmps89
 go_wp2
 go_region
 all_goals(go_wp2;go_ret;exact⟨rfl,rfl⟩)
def No {b g:Nat}{p:Value}{fzb:Nat×Nat}{cur:Array Value}{e:TypeId}{w:World}(hbk:w.heap[b]? =some (.cells #[p,.slice (some ⟨g,0,none⟩) 0 0] 130 fzb))(hg:w.heap[g]? =some (.cells cur e (0,0))):
 Calls Tryz.prog 89 #[.pointer (some ⟨b,0,none⟩)] w λe w'=>e= .returned (.string ⟨#[]⟩)/\w'=w.drew.alloc (.view ⟨g,0,none⟩ 5):=by
 have hUS: ∀W q,(Builtin.unsafeString_ #[170,3] 9 #[.pointer q,.int .i64 0]).run Tryz.prog W= .ok (.string .empty) W:=λW q=>Lib.run_unsafeString_none W _ _ _ q;have hlt:b<w.heap.size:=by
  rcases jy b w.heap.size with h'|h'
  ·exact h'
  ·simp[Pr h']at hbk
 have c1:w.drew.cell? ⟨b,1,none⟩=some (.slice (some ⟨g,0,none⟩) 0 0):=by have:w.drew.heap[b]? =some (.cells #[p,.slice (some ⟨g,0,none⟩) 0 0] 130 fzb):=hbk;rw[Lib.cell_of_heap this];rfl
 have hSD:(Builtin.unsafeSliceData_ #[128] 170 #[.slice (some ⟨g,0,none⟩) 0 0]).run Tryz.prog w.drew= .ok (.pointer (some ⟨w.drew.heap.size,0,none⟩)) (w.drew.alloc (.view ⟨g,0,none⟩ 5)):=
  Lib.run_unsafeSliceData_zero w.drew _ _ 5 Tryz.underlying170 ⟨g,0,none⟩ 0 (e,cur.size) (by have hg':w.drew.heap[g]? =some (.cells cur e (0,0)):=hg;simp[World.shape?,hg'])
 have c2:(w.drew.alloc (.view ⟨g,0,none⟩ 5)).cell? ⟨b,1,none⟩=some (.slice (some ⟨g,0,none⟩) 0 0):=by have:(w.drew.alloc (.view ⟨g,0,none⟩ 5)).heap[b]? =_:=(Lib.alloc_old w.drew _ b hlt).trans hbk;rw[Lib.cell_of_heap this];rfl
 have c3:(w.alloc (.view ⟨g,0,none⟩ 5)).drew.cell? ⟨b,1,none⟩=some (.slice (some ⟨g,0,none⟩) 0 0):=c2;have c0:w.cell? ⟨b,1,none⟩=some (.slice (some ⟨g,0,none⟩) 0 0):=c1
 go_enter Tryz.func89,Tryz.ntmps89
 go_wp2
 go_region
 all_goals(go_wp2;go_ret;exact⟨rfl,rfl⟩)
section
variable {W0 w:World}{G:Gh}{L:Nat}{μ:Mu}
def zQ {args:List LV}{cargs:Array Value}{μ':Mu}{G':Gh}{w':World}{T:Nat->Prop}{v:LV}{cv:Value}(R1:Rel G L (ck args) μ' cargs w)(hT1: ∀b,bH G w (ck args) μ' cargs b->T b)(hle:Le G w G' w')
 (hfr: ∀b,bH G w (ck args) μ' cargs b->w'.heap[b]? =w.heap[b]? /\G'.O b=G.O b) (hG:G'=G.withO G'.O) (ho:w'.os=w.os) (ht:w'.tape=w.tape) (hu:w'.output=w.output) (hs:w.heap.size<=w'.heap.size)
 (hkeep: ∀b,b<w.heap.size-> ¬T b->w'.heap[b]? =w.heap[b]? /\G'.O b=G.O b) (hv:LVR G' w' L 0 v cv) (hno: ∀b,¬bZ v cv b):jE L T G w (.ret v μ') (.returned cv) w':=by
 have hβ: ∀lev i,G'.β lev i=G.β lev i/\G'.sz lev i=G.sz lev i:=by intro lev i;rw[hG];exact⟨rfl,rfl⟩
 have hn:G'.n=G.n:=by rw[hG];rfl
 obtain⟨R2,hO2⟩:=R1.frame hle hfr (λlev i _=>hβ lev i) hn;obtain⟨R3,hT3⟩:=R2.ret hv hno;have htouch: ∀b,bH G' w' (ck [v]) μ' #[cv] b->T b:=by
  intro b hb;rcases hT3 b hb with⟨q,h⟩|⟨lev,i,h,e⟩
  ·exact hT1 b (.inl ⟨q,hO2 q b h⟩)
  ·exact hT1 b (.inr ⟨lev,i,h,by rw[<-(hβ lev i).1];exact e⟩)
 refine⟨G'.O,?_,?_⟩
 ·rw[<-hG];exact R3
 ·rw[<-hG];exact⟨hle,ho,ht,hu,hs,hkeep,λb hb=> .inl (htouch b hb),λl _=>⟨λi=>hβ l i,by rw[hn]⟩⟩
def LK {g n:Nat}{cur:Array Value}{e:TypeId}{fz:Nat×Nat}(hg:w.heap[g]? =some (.cells cur e fz)):
 (∀b,b≠g->(w.drew.freeze ⟨g,0,none⟩ n).heap[b]? =w.heap[b]?)/\(∃fz',(w.drew.freeze ⟨g,0,none⟩ n).heap[g]? =some (.cells cur e fz'))/\(w.drew.freeze ⟨g,0,none⟩ n).os=w.os/\(w.drew.freeze ⟨g,0,none⟩ n).tape=w.tape/\(w.drew.freeze ⟨g,0,none⟩ n).output=w.output/\(w.drew.freeze ⟨g,0,none⟩ n).heap.size=w.heap.size:=by
 have hg':w.drew.heap[g]? =some (.cells cur e fz):=hg;unfold World.freeze;split
 ·exact⟨λb _=>rfl,⟨fz,hg'⟩,rfl,rfl,rfl,rfl⟩
 ·refine⟨λb hb=> ?_,?_,rfl,rfl,rfl,bG⟩
  ·simp only[Array.getElem?_modify];rw[bE (λe=>hb e.symm)];rfl
  ·simp only[Array.getElem?_modify,cX,hg',d8];exact⟨_,rfl⟩
def sJ (l:List UInt8):List CV:=l.map λ(b:UInt8)=>CV.v (.int .u8 (b.toNat:Int))
def SH {l:List UInt8}:(sJ l).length=l.length:=by simp[sJ]
def xB: ∀{xs:List CV} {s:List UInt8},de xs=some s->xs=sJ s
 |[],s,h=>by injection h with h;subst h;rfl
 |x::r,s,h=>by
  unfold de at h;split at h
  ·rename_i heq;cases heq
  ·rename_i n r' heq;injection heq with e1 e2;subst e1 e2;split at h
   ·rename_i hd;obtain⟨l,hl,h2⟩:=cK h;injection h2 with h2;subst h2;have ih:=xB hl;rw[ih];simp only[cM,dn]at hd;have hn:((UInt8.ofNat n.toNat).toNat:Int)=n:=by rw[F2 (by show n.toNat<256;omega)];omega
    show _=CV.v (.int .u8 ((UInt8.ofNat n.toNat).toNat:Int))::sJ l;rw[hn]
   ·cases h
  ·cases h
def UC {args:List LV}{out:Out}(h:vg 130 args μ=some out):fk E.P W0 89 args μ out:=by
 unfold vg at h;obtain⟨q,hq,h2⟩:=cK h;clear h;obtain⟨u,hu,h⟩:=cK h2;clear h2;have hargs:args=[q.1]:=by rw[eI hq,iq hu]
 rw[hargs];clear hargs hq hu;obtain⟨x,y⟩:=q;simp only at h |-;split at h<;>try(cases h;done)
 rename_i lev i t n;obtain⟨hg,h2⟩:=iu h;clear h;rw[cM]at hg;have ht:=eC hg.1;have hn:=eC hg.2;subst ht hn;refine⟨gm Tryz.func89 rfl bx,λG w cargs hs R hkn=> ?_⟩;split at h2<;>try(cases h2;done)
 rename_i a b hob;obtain⟨xs,hxs,h3⟩:=cK h2;obtain⟨s,hbs,h4⟩:=cK h3;injection h4 with h4;subst h4;obtain⟨cur,fz,B,hin,hc0⟩:=SG R rfl hob;have hca:=IG (by simpa using hs) hc0;have hlt:lev<μ.length:=B.lt;have hot:=UB (args:=[LV.cv (CV.tref lev i 130 2)]) hlt hob;have hl:b6 (bP (μ++[(ck [LV.cv (CV.tref lev i 130 2)]).lam]) lev i):=by rw[hot];trivial
 obtain⟨R1,_,hT,hO1,hO2,hlv⟩:=R.setOb (s1:=ck [LV.cv (CV.tref lev i 130 2)]) (μ1:=cq μ lev i .dead) (o':= .dead) (cur':=cur) hl B.heap rfl rfl rfl rfl kU.1 (kV hlt).symm
  (λG' w' _ _ _=>⟨λ_=>trivial,λ_=>trivial⟩) (λcs' k b h=>by cases h)
 rw[Bg w _ cur 130 fz B.heap]at R1 hT hO1 hO2;have hT1: ∀b,bH G w (ck [LV.cv (CV.tref lev i 130 2)]) (cq μ lev i .dead) cargs b->bH G w (ck [LV.cv (CV.tref lev i 130 2)]) μ cargs b:=by
  intro b hb;rcases hT b hb with h|⟨cs',k,h,_⟩
  ·exact h
  ·cases h
 obtain⟨hown,howns⟩:=mM hxs B.vb;have hp1: ∃p,w.heap[G.β lev i]? =some (.cells #[p,cur.getD 1 undef] 130 fz):=by
  refine⟨cur.getD 0 undef,?_⟩;rw[B.heap];congr 2;apply vM
  ·exact B.size
  ·intro j h1 h2;have hsz:=B.size;have:j=0\/j=1:=bu;rcases this with rfl|rfl
   ·simp[d7,hsz]
   ·simp[d7,hsz]
 obtain⟨p,hbk⟩:=hp1;rw[hca];rcases hown with⟨hx0,hv0⟩|⟨g,cap,cur2,e2,sz,hv,hg,h1,h2',h3',h4,h5,h6,h7,h8⟩
 ·
  subst hx0;have hs0:s=[]:=by injection hbs with h;exact h.symm
  subst hs0;rw[hv0]at hbk;refine(RD hbk).mono λe w2 ⟨k1,k2⟩=> ?_;subst k1 k2;rw[<-hca];exact zQ R1 hT1 ⟨λ_ _ _ h hb=>⟨h,hb⟩,λ_ _ h=>⟨h,rfl,rfl⟩,λ_ _ _ h hc=>⟨h,hc⟩,λb cur e fz h=>⟨cur,fz,h,rfl⟩⟩ (λb _=>⟨rfl,rfl⟩) rfl rfl rfl rfl (cw _) (λb _ _=>⟨rfl,rfl⟩) rfl (λb h=>by simp[bZ]at h)
 ·rw[hv]at hbk;have hob1:bF G w (ck [LV.cv (CV.tref lev i 130 2)]).fr cargs (μ++[(ck [LV.cv (CV.tref lev i 130 2)]).lam]) (.ob lev i 1) g:=by simp only[bF,hot];refine⟨cur,130,fz,B.heap,?_⟩;have:=howns g (by rw[hv];simp[bZ]);exact this
  have hTg:bH G w (ck [LV.cv (CV.tref lev i 130 2)]) μ cargs g:= .inl ⟨_,hob1⟩;have hne: ∀b,bH G w (ck [LV.cv (CV.tref lev i 130 2)]) (cq μ lev i .dead) cargs b->b≠g:=by
   intro b hb e;subst e;rcases hb with⟨q,hb⟩|⟨l,j,hb,e⟩
   ·rcases hO1 q b hb with h|⟨cs',k,h,_⟩
    ·have hq:=R.own q (.ob lev i 1) b h hob1;subst hq;obtain⟨cs',h,_⟩:=hO2 1 b hb;cases h
    ·cases h
   ·exact R.apart (.ob lev i 1) b l j hob1 (hlv l j hb) e
  by_cases hx0:xs=[]
  ·subst hx0;have hs0:s=[]:=by injection hbs with h;exact h.symm
   subst hs0;have hcap:=h5 rfl;subst hcap;refine(No hbk hg).mono λe w2 ⟨k1,k2⟩=> ?_;subst k1 k2;rw[<-hca];have hle:=vX (G:=G) (w:=w.drew) (.view ⟨g,0,none⟩ 5) 0;have hle2:Le G w (G.setO w.drew.heap.size 0) (w.drew.alloc (.view ⟨g,0,none⟩ 5)):=⟨hle.map,hle.ref,hle.imm,hle.blk⟩;have hold: ∀b,b<w.heap.size->(w.drew.alloc (.view ⟨g,0,none⟩ 5)).heap[b]? =w.heap[b]? /\(G.setO w.drew.heap.size 0).O b=G.O b:=λb hb=>⟨iN w.drew _ hb,dU (Bb hb)⟩;exact zQ R1 hT1 hle2 (λb hb=>hold b (R1.touch_lt hb)) rfl rfl rfl rfl (by simp[World.alloc]) (λb hb _=>hold b hb) rfl (λb h=>by simp[bZ]at h)
  ·have he:e2=5:=h8 (by rw[hbs];rfl) hx0;subst he;have hxs2:=xB hbs;have hlen:xs.length=s.length:=by rw[hxs2,SH]
   have hs0:s≠[]:=by intro h;rw[h]at hlen;exact hx0 (kM hlen)
   have hsz1:sz=1:=by
    cases xs with
    |nil=>exact absurd rfl hx0|cons c r=>
     have:=h4 c lG;have hc:c∈sJ s:=by rw[<-hxs2];exact lG
     obtain⟨b,_,rfl⟩:=nv.1 hc;exact this.symm
   subst hsz1;obtain⟨olds,ho1,ho2⟩:=uC h6 h4;have hcells: ∀(j:Nat) x,s[j]? =some x->w.cell? ⟨g,j,none⟩=some (.int .u8 x.toNat):=by
    intro j x hx;have hflat:xs.flatMap CV.cells=sJ s:=by rw[hxs2];exact wG s
    rw[hflat]at ho1;obtain⟨v,hv1,hv2⟩:=(fY ho1).2 j (CV.int .u8 (x.toNat:Int)) (by simp[sJ,hx]);simp only[VR]at hv2;subst hv2;have:=(ho2 j _ hv1).1;simpa using this
   rw[hlen]at hbk h1;refine(Nn hbk hs0 hg h1 h2' bu hcells).mono λe w2 ⟨k1,k2⟩=> ?_;subst k1 k2;rw[<-hca];obtain⟨f1,⟨fz',f2⟩,f3,f4,f5,f6⟩:=LK (n:=s.length) hg;have hle:Le G w G (w.drew.freeze ⟨g,0,none⟩ s.length):=by
    refine⟨λb es clk h hb=> ?_,λ_ _ h=>⟨h,rfl,rfl⟩,λb off v h hc=>⟨h,?_⟩,λb c e fz h=> ?_⟩
    ·have hb2:b≠g:=λe=>by subst e;rw[hg]at hb;cases hb
     exact⟨h,by rw[f1 b hb2];exact hb⟩
    ·rw[<-hc];unfold World.cell?;by_cases hb2:b=g
     ·subst hb2;simp only[f2,hg]
     ·simp only[f1 b hb2]
    ·by_cases hb2:b=g
     ·subst hb2;rw[hg]at h;obtain⟨rfl,rfl,rfl⟩:=(j4 ..).mp (gY h);exact⟨_,fz',f2,rfl⟩
     ·exact⟨c,fz,by rw[f1 b hb2];exact h,rfl⟩
   exact zQ R1 hT1 hle (λb hb=>⟨f1 b (hne b hb),rfl⟩) rfl f3 f4 f5 (by rw[f6];exact cw _) (λb _ hn=>⟨f1 b (λe=>hn (e▸hTg)),rfl⟩) rfl (λb h=>by simp[bZ]at h)
def aaR:E.P.follows .mixedOrders=true:=bx
end
end Go.Abs
