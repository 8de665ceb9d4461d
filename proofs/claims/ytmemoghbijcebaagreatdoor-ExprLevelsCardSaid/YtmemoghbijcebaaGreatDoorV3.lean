/-
  The statement ExprLevelsCardSaid, proved; part 4 of 11 of its proof.
-/
import Derived.Test.YtmemoghbijcebaaGreatDoorV2
set_option linter.all false
namespace Go.Abs
open Go
section
variable {P:Program}{ρ:Rho}{h:OpHint}{o:Oper}{s t s':S}{μ ν μ':Mu}{v:LV}
def HG (x:LV):strip1 (strip1 x)=strip1 x:=by cases x<;>rfl
def BT (x:LV):strip (strip x)=strip x:=by cases x<;>first|rfl|(simp only[strip,List.map_map];congr 1;exact vS λx _=>HG x)
inductive SameOb:Ob->Ob->Prop where
 |refl (o:Ob):SameOb o o|cells {cs ds:List LV}:cs.map strip=ds.map strip->SameOb (.cells cs) (.cells ds)
section
variable {P:Program}
def SameOb.symm {a b:Ob}(h:SameOb a b):SameOb b a:=by
 cases h with|refl=>exact .refl _|cells e=>exact .cells e.symm
def SameOb.live {a b:Ob}(h:SameOb a b)(hl:b6 b):b6 a:=by
 cases h with|refl=>exact hl|cells e=>trivial
def LL (x:LV):cx (strip x)=cx x:=by cases x<;>rfl
def uz: ∀(l:List LV),nD (l.map strip)=nD l
 |[]=>rfl|x::r=>by simp only[dQ,nD,LL,uz r]
def SameOb.read {a b:Ob}(h:SameOb a b)(t:TypeId)(off:Nat):cD P t b off=cD P t a off:=by
 cases h with
 |refl=>rfl| @cells cs ds e=>
  unfold cD;congr;funext _;have hl:cs.length=ds.length:=by simpa using m6 List.length e
  simp only[pQ];cases dz P t with
  |true=>
   dsimp only;congr;funext n;rw[hl];have:nD ((ds.drop off).take n)=nD ((cs.drop off).take n):=by rw[<-uz,<-uz ((cs.drop off).take n),Pt,Pt,List.map_drop,List.map_drop,e]
   rw[this]
  |false=>
   have:(ds[off]?).map strip=(cs[off]?).map strip:=by rw[<-fP,<-fP,e]
   grind
end
def gl (k:Kind)(s t:S)(μ ν:Mu):Prop:=
 match k with
 | .plain=>True| .rd=> ∀i,b6 (bQ s.lam i)->SameOb (bQ s.lam i) (bQ t.lam i)| .tk=>t.lam=s.lam| .wr=>t.lam=s.lam| .ap=>t.lam.length=s.lam.length| .look=>(∀lev i,b6 (b7 μ lev i)->SameOb (b7 μ lev i) (b7 ν lev i))/\t.pushed=s.pushed| .tku=>ν=μ/\t.pushed=s.pushed| .ou=>ν=μ/\t.pushed=s.pushed| .all=>t.lam=s.lam/\t.pushed=s.pushed/\ν=μ
def Eff (P:Program)(ρ:Rho)(h:OpHint)(o:Oper)(k:Kind)(s t:S)(μ ν:Mu)(v:LV)(s':S)(μ':Mu):Prop:=
 match k with
 | .plain=>s'=bw h.take s/\μ'=μ/\cP P ρ h o t ν=some (v,bw h.take t,ν)| .rd=>s'=bw h.take s/\μ'=μ/\cP P ρ h o t ν=some (v,bw h.take t,ν)| .tk=> ∃lam',s'={bw h.take s with lam:=lam'}/\μ'=μ/\(∀i,SameOb (bQ s.lam i) (bQ lam' i))/\t.lam=s.lam/\cP P ρ h o t ν=some (v,{bw h.take t with lam:=lam'},ν)| .wr=> ∃lam',s'={bw h.take s with lam:=lam'}/\μ'=μ/\cP P ρ h o t ν=some (v,{bw h.take t with lam:=lam'},ν)| .ap=> ∃ob,s'={bw h.take s with lam:=s.lam++[ob]}/\μ'=μ/\cP P ρ h o t ν=some (v,{bw h.take t with lam:=t.lam++[ob]},ν)| .look=>s'=bw h.take s/\μ'=μ/\cP P ρ h o t ν=some (v,bw h.take t,ν)| .tku=>s'=bw h.take s/\(∀lev i,SameOb (b7 μ lev i) (b7 μ' lev i))/\ν=μ/\cP P ρ h o t ν=some (v,bw h.take t,μ')| .ou=>s'=bw h.take s/\cP P ρ h o t ν=some (v,bw h.take t,μ')| .all=>s'.fr=(bw h.take s).fr/\cP P ρ h o t ν=some (v,{s' with fr:=(bw h.take t).fr},μ')
def Ag.self:Ag h o s s:=λ_ _=>rfl
def Tm (hp: ∀t ν,Ag h o s t->ed P ρ h o s t μ ν)(ha:Ag h o s t)(hst:cP P ρ h o s μ=some (v,s',μ')):Eff P ρ h o .plain s t μ ν v s' μ':=by have h1:=hp s μ Ag.self;have h2:=hp t ν ha;unfold ed at h1 h2;rw[hst,cF]at h1 h2;simp only[bJ,dp,kK]at h1;exact⟨h1.1,h1.2,h2⟩
def BJ {ty:TypeId}{ob:Ob}{off:Nat}{w:LV}(h:cD P ty ob off=some w):b6 ob:=by unfold cD at h;obtain⟨_,_,h⟩:=bz.1 h;cases ob<;>first|trivial|simp[pQ]at h
def Hr {ty:TypeId}{l:Lam}{i off:Nat}{q:LV×Ob}(h:gh P ty (bQ l i) off=some q)(j:Nat):SameOb (bQ l j) (bQ (l.set i q.2) j):=by
 unfold gh at h;obtain⟨_,_,h⟩:=bz.1 h;split at h<;>try(cases h;done)
 split at h<;>try(cases h;done)
 rename_i cs hcs;split at h<;>try(cases h;done)
 rename_i x hx;simp only[bJ]at h;subst h;have hi:i<l.length:=ld (by rw[hcs];trivial);rw[qF hi];split
 ·rename_i e;subst e;rw[hcs];refine .cells ?_;rw[List.map_set];apply List.ext_getElem?;intro k;by_cases hk:k=off
  ·subst hk;have hlt:k<cs.length:=(dm.1 hx).1;rw[tf (by simpa using hlt),fP,hx,BT];rfl
  grind
 ·exact .refl _
def LT {ty:TypeId}{μ:Mu}{lv ix off:Nat}{q:LV×Ob}(h:gh P ty (b7 μ lv ix) off=some q)(lev i:Nat):SameOb (b7 μ lev i) (b7 (cq μ lv ix q.2) lev i):=by
 have hl:b6 (b7 μ lv ix):=by
  unfold gh at h;obtain⟨_,_,h⟩:=bz.1 h;split at h<;>try(cases h;done)
  split at h<;>try(cases h;done)
  rename_i cs hcs;rw[hcs];trivial
 rw[nI hl];split
 ·rename_i e;obtain⟨rfl,rfl⟩:=e;have:=Hr (l:=[b7 μ lev i]) (i:=0) (q:=q) (off:=off) (ty:=ty) (by simpa[bQ]using h) 0;simpa[bQ]using this
 ·exact .refl _
def Wb {ty:TypeId}{x:Operand}(ho:o.op= .load ty x)(ha:Ag h o s t)(hc:gl (cO h o) s t μ ν)(hst:cP P ρ h o s μ=some (v,s',μ')):Eff P ρ h o (cO h o) s t μ ν v s' μ':=by
 have e:=ha x (by simp[ho,Op.operands]);have l1:=ci h.take s;have l2:=ci h.take t;have hs1:cP P ρ h o s μ=jA P h ty (evA h s.fr x) (bw h.take s) μ λv s μ=>some (v,s,μ):=by simp only[cP,dY,ho]
 have ht1:cP P ρ h o t ν=jA P h ty (evA h s.fr x) (bw h.take t) ν λv s μ=>some (v,s,μ):=by simp only[cP,dY,ho,e]
 rw[hs1]at hst;unfold Eff;rw[ht1];clear hs1 ht1 e ha;simp only[cO,ho]at hc |-;unfold jA at hst |-;generalize evA h s.fr x=q at hst |-;cases hou:h.outer with
 |false=>
  simp only[hou]at hc hst |-;cases hce:h.cell with
  |false=>
   simp only[hce,gl]at hc hst |-;cases q with
   |loc i off=>
    dsimp only at hst |-;obtain⟨w,h1,h2⟩:=bz.1 hst;obtain⟨y,h3,_⟩:=xP h2;simp only[bJ,dp]at h3;obtain⟨rfl,rfl,rfl⟩:=h3;refine⟨rfl,rfl,bz.2 ⟨w,?_,?_⟩⟩
    ·rw[l1.1]at h1;rw[l2.1,(hc i (BJ h1)).read];exact h1
    ·have:(oh P h.arr ty w λv=>some (v,bw h.take t,ν))=opt (oh P h.arr ty w λv=>some (v,bw h.take s,μ)) λq=>some (q.1,bw h.take t,ν):=by rw[Bz];rfl
     rw[this,h2];rfl
   |cv c=>dsimp only at hst |-;obtain⟨cs,h1,h2⟩:=bz.1 hst;obtain⟨c',h3,h4⟩:=bz.1 h2;simp only[bJ,dp]at h4;obtain⟨rfl,rfl,rfl⟩:=h4;exact⟨rfl,rfl,bz.2 ⟨cs,h1,bz.2 ⟨c',h3,rfl⟩⟩⟩
   |osl _=>cases hst|lsl _ _ _=>cases hst|lclo _ _=>cases hst|mloc _=>cases hst|tloc _ _ _=>cases hst|ost _=>cases hst|stl _=>cases hst|ltup _=>cases hst
  |true=>
   simp only[hce,gl]at hc hst |-;cases q with
   |loc i off=>
    dsimp only at hst |-;obtain⟨w,h1,h2⟩:=bz.1 hst;simp only[bJ,dp]at h2;obtain⟨rfl,rfl,rfl⟩:=h2;refine⟨_,rfl,rfl,λj=> ?_,hc,bz.2 ⟨w,?_,?_⟩⟩
    ·rw[l1.1]at h1 |-;exact Hr h1 j
    ·rw[l2.1,hc,<-l1.1];exact h1
    ·rw[l2.1,hc,<-l1.1]
   |cv c=>dsimp only at hst |-;obtain⟨cs,h1,h2⟩:=bz.1 hst;obtain⟨c',h3,h4⟩:=bz.1 h2;simp only[bJ,dp]at h4;obtain⟨rfl,rfl,rfl⟩:=h4;refine⟨s.lam,by rw[<-l1.1],rfl,λ_=> .refl _,hc,bz.2 ⟨cs,h1,bz.2 ⟨c',h3,?_⟩⟩⟩;rw[<-hc,<-l2.1]
   |osl _=>cases hst|lsl _ _ _=>cases hst|lclo _ _=>cases hst|mloc _=>cases hst|tloc _ _ _=>cases hst|ost _=>cases hst|stl _=>cases hst|ltup _=>cases hst
 |true=>
  simp only[hou]at hst hc |-;cases q with
  |cv c=>
   dsimp only at hst |-;obtain⟨q,h1,hst⟩:=bz.1 hst;have key: ∀{own:Bool} {w:LV} {m m':Mu},(eP P own ty w λv=>some (v,bw h.take s,m))=some (v,s',μ')->s'=bw h.take s/\μ'=m/\(eP P own ty w λv=>some (v,bw h.take t,m'))=some (v,bw h.take t,m'):=by
    intro own w m m' hk;obtain⟨y,h3,_⟩:=jr hk;simp only[bJ,dp]at h3;refine⟨h3.2.1.symm,h3.2.2.symm,?_⟩;have:(eP P own ty w λv=>some (v,bw h.take t,m'))=opt (eP P own ty w λv=>some (v,bw h.take s,m)) λq=>some (q.1,bw h.take t,m'):=by rw[jQ];rfl
    rw[this,hk];rfl
   cases hce:h.cell with
   |false=>simp only[hce,gl]at hst hc |-;obtain⟨hsame,hpu⟩:=hc;obtain⟨w,h2,hst⟩:=bz.1 hst;obtain⟨e1,e2,h4⟩:=key (m':=ν) hst;refine⟨e1,e2,bz.2 ⟨q,h1,bz.2 ⟨w,?_,h4⟩⟩⟩;rw[(hsame _ _ (BJ h2)).read];exact h2
   |true=>
    simp only[hce,gl]at hst hc |-;obtain⟨rfl,hpu⟩:=hc;obtain⟨w,h2,hst⟩:=bz.1 hst;obtain⟨e1,e2,h4⟩:=key (m':=μ') hst;refine⟨e1,λlev i=> ?_,rfl,bz.2 ⟨q,h1,bz.2 ⟨w,h2,?_⟩⟩⟩
    ·rw[e2];exact LT h2 lev i
    simp_all
  |loc i off=>cases hst|osl _=>cases hst|lsl _ _ _=>cases hst|lclo _ _=>cases hst|mloc _=>cases hst|tloc _ _ _=>cases hst|ost _=>cases hst|stl _=>cases hst|ltup _=>cases hst
def Tn {ty:TypeId}{x y:Operand}(ho:o.op= .store ty x y)(ha:Ag h o s t)(hc:gl (cO h o) s t μ ν)(hst:cP P ρ h o s μ=some (v,s',μ')):Eff P ρ h o (cO h o) s t μ ν v s' μ':=by
 have e1:=ha x (by simp[ho,Op.operands]);have e2:=ha y (by simp[ho,Op.operands]);have l1:=ci h.take s;have l2:=ci h.take t;have hs1:cP P ρ h o s μ=lC P h ty (evA h s.fr x) (evA h s.fr y) (bw h.take s) μ λv s μ=>some (v,s,μ):=by simp only[cP,dY,ho]
 have ht1:cP P ρ h o t ν=lC P h ty (evA h s.fr x) (evA h s.fr y) (bw h.take t) ν λv s μ=>some (v,s,μ):=by simp only[cP,dY,ho,e1,e2]
 rw[hs1]at hst;unfold Eff;rw[ht1];clear hs1 ht1 e1 e2 ha;simp only[cO,ho]at hc |-;unfold lC at hst |-;generalize evA h s.fr x=q at hst |-;generalize evA h s.fr y=u at hst |-;cases hou:h.outer with
 |false=>
  simp only[hou,gl]at hc hst |-;cases q with
  |loc i off=>
   dsimp only at hst |-;rw[qg]at hst |-;obtain⟨w,h1,h2⟩:=bz.1 hst;simp only[bJ,dp]at h2;obtain⟨rfl,rfl,rfl⟩:=h2;refine⟨_,rfl,rfl,bz.2 ⟨w,?_,?_⟩⟩
   all_goals simp_all
  |cv c=>cases hst|osl _=>cases hst|lsl _ _ _=>cases hst|lclo _ _=>cases hst|mloc _=>cases hst|tloc _ _ _=>cases hst|ost _=>cases hst|stl _=>cases hst|ltup _=>cases hst
 |true=>
  simp only[hou,gl]at hc hst |-;obtain⟨rfl,hpu⟩:=hc;cases q with
  |cv c=>dsimp only at hst |-;obtain⟨q,h1,h2⟩:=bz.1 hst;obtain⟨h3,h4⟩:=bM.1 h2;obtain⟨w,h5,h6⟩:=bz.1 h4;simp only[bJ,dp]at h6;obtain⟨rfl,rfl,rfl⟩:=h6;exact⟨rfl,bz.2 ⟨q,h1,bM.2 ⟨h3,bz.2 ⟨w,h5,rfl⟩⟩⟩⟩
  |loc i off=>cases hst|osl _=>cases hst|lsl _ _ _=>cases hst|lclo _ _=>cases hst|mloc _=>cases hst|tloc _ _ _=>cases hst|ost _=>cases hst|stl _=>cases hst|ltup _=>cases hst
def Tl {ty:TypeId}(ho:o.op= .alloc ty)(hc:gl (cO h o) s t μ ν)(hst:cP P ρ h o s μ=some (v,s',μ')):Eff P ρ h o (cO h o) s t μ ν v s' μ':=by have l1:=ci h.take s;have l2:=ci h.take t;simp only[cO,ho,gl]at hc;simp only[cO,ho,Eff];simp only[cP,dY,ho]at hst |-;obtain⟨w,h1,h2⟩:=bz.1 hst;simp only[bJ,dp]at h2;obtain⟨rfl,rfl,rfl⟩:=h2;refine⟨_,by rw[l1.1],rfl,bz.2 ⟨w,h1,?_⟩⟩;simp_all
def YZ {ty:TypeId}{x:Operand}(ho:o.op= .box ty x)(hr:h.cell=false)(ha:Ag h o s t)(hc:gl (cO h o) s t μ ν)(hst:cP P ρ h o s μ=some (v,s',μ')):Eff P ρ h o (cO h o) s t μ ν v s' μ':=by have e:=ha x (by simp[ho,Op.operands]);have l1:=ci h.take s;have l2:=ci h.take t;simp only[cO,ho,hr,gl]at hc;simp only[cO,ho,hr,Eff];simp only[cP,dY,ho,hr,oI,e]at hst |-;obtain⟨w,h1,h2⟩:=bz.1 hst;simp only[bJ,dp]at h2;obtain⟨rfl,rfl,rfl⟩:=h2;refine⟨_,by rw[l1.1],rfl,bz.2 ⟨w,h1,?_⟩⟩;simp_all
def Fs {ty:TypeId}{len:Nat}{parts:Array (Nat×Operand)}(ho:o.op= .buildSlice ty len parts)(hr:h.arr=true)(ha:Ag h o s t)(hc:gl (cO h o) s t μ ν)(hst:cP P ρ h o s μ=some (v,s',μ')):Eff P ρ h o (cO h o) s t μ ν v s' μ':=by
 have e: ∀b sz,rf b sz (evA h t.fr) 0 parts.toList=rf b sz (evA h s.fr) 0 parts.toList:=λb sz=>w8 λq hq=>ha q.2 (by simp only[ho,Op.operands];simp;exact⟨q.1,by simpa using hq⟩);have l1:=ci h.take s;have l2:=ci h.take t;simp only[cO,ho,hr,gl]at hc;simp only[cO,ho,hr,Eff];simp only[cP,dY,ho,rZ,e,hr]at hst |-;split at hst<;>try(cases hst;done)
 obtain⟨sz,h1,hst⟩:=bz.1 hst;obtain⟨h2,hst⟩:=bM.1 hst;obtain⟨z,h3,hst⟩:=bz.1 hst;obtain⟨xs,h5,hst⟩:=bz.1 hst;obtain⟨h6,hst⟩:=bM.1 hst;obtain⟨h7,hst⟩:=bM.1 hst;simp only[bJ,dp]at hst;obtain⟨rfl,rfl,rfl⟩:=hst;refine⟨_,by rw[l1.1],rfl,bz.2 ⟨sz,h1,bM.2 ⟨h2,bz.2 ⟨z,h3,bz.2 ⟨xs,h5,bM.2 ⟨h6,bM.2 ⟨h7,?_⟩⟩⟩⟩⟩⟩⟩;simp_all
def Fm {β:Type}{src dst:TypeId}{q:LV}{f:LV->S->Mu->Option β}(hr:h.arr=false)(hq: ∀id off len,q≠ .lsl id off len):
 fy P h src dst q t ν f=fy P h src dst q s μ λv _ _=>f v t ν:=by
 unfold fy;simp only[hr]
def LF {src dst:TypeId}{x:Operand}(ho:o.op= .convert src dst x)(hr:h.arr=false)(ha:Ag h o s t)(hc:gl (cO h o) s t μ ν)(hst:cP P ρ h o s μ=some (v,s',μ')):Eff P ρ h o (cO h o) s t μ ν v s' μ':=by
 have e:=ha x (by simp[ho,Op.operands]);have l1:=ci h.take s;have l2:=ci h.take t;have hs1:cP P ρ h o s μ=fy P h src dst (evA h s.fr x) (bw h.take s) μ λv s μ=>some (v,s,μ):=by simp only[cP,dY,ho]
 have ht1:cP P ρ h o t ν=fy P h src dst (evA h s.fr x) (bw h.take t) ν λv s μ=>some (v,s,μ):=by simp only[cP,dY,ho,e]
 rw[hs1]at hst;unfold Eff;rw[ht1];clear hs1 ht1 e ha;simp only[cO,ho,hr,gl]at hc |-;generalize evA h s.fr x=q at hst |-;by_cases hq: ∀id off len,q≠ .lsl id off len
 ·have key: ∀(t:S) (ν:Mu),(fy P h src dst q t ν λv s μ=>some (v,s,μ))=opt (fy P h src dst q (bw h.take s) μ λv s μ=>some (v,s,μ)) λa=>some (a.1,t,ν):=by intro t ν;rw[zx];exact Fm hr hq
  have h1:=key (bw h.take s) μ;rw[hst,cF]at h1;simp only[bJ,dp,kK]at h1;refine⟨h1.1,h1.2,?_⟩;rw[key,hst];rfl
 ·obtain⟨id,off,len,rfl⟩: ∃id off len,q= .lsl id off len:=by cases q<;>first|exact⟨_,_,_,rfl⟩|(exfalso;apply hq;intro _ _ _ hh;cases hh)
  unfold fy at hst |-;simp only[hr]at hst |-;split at hst
  ·split at hst<;>cases hst
  ·rename_i hu;split at hst
   ·cases hst
   ·rename_i e' hu';split at hst<;>try(cases hst;done)
    rename_i hue;split at hst<;>try(cases hst;done)
    rename_i sz cs hob;obtain⟨h1,hst⟩:=bM.1 hst;obtain⟨l,h2,hst⟩:=bz.1 hst;simp only[bJ,dp]at hst;obtain⟨rfl,rfl,rfl⟩:=hst;rw[l1.1]at hob;have hob2:bQ (bw h.take t).lam id= .arr sz cs:=by have hc2:=hc id (by rw[hob];trivial);rw[hob]at hc2;rw[l2.1];generalize bQ t.lam id=q at hc2 |-;cases hc2;rfl
    refine⟨rfl,rfl,?_⟩;simp only[hob2];exact bM.2 ⟨h1,bz.2 ⟨l,h2,rfl⟩⟩
   ·cases hst
  ·split at hst
   ·split at hst<;>cases hst
   ·cases hst
  ·cases hst
def Wa {c:Call}{fx:Operand}(ho:o.op= .call c)(hc0:c.callee= .value fx)(hp:h.push=false)(ha:Ag h o s t)(hc:gl (cO h o) s t μ ν)(hst:cP P ρ h o s μ=some (v,s',μ')):Eff P ρ h o (cO h o) s t μ ν v s' μ':=by
 have e1:=ha fx (by simp[ho,Op.operands,Call.operands,hc0]);have em:c.args.toList.map (evA h t.fr)=c.args.toList.map (evA h s.fr):=vS λx hx=>ha x (by simp[ho,Op.operands,Call.operands,hc0];right;simpa using hx);have l1:=ci h.take s;have l2:=ci h.take t;simp only[cO,ho,hc0,hp,gl]at hc;simp only[cO,ho,hc0,hp,Eff];obtain⟨rfl,hpu⟩:=hc;have key: ∀(f:FuncId) (args:List LV),(gG P ρ h o.type f args (bw h.take s) ν (λv s μ=>some (v,s,μ)) λ_ _ _=>none)=some (v,s',μ')->
  s'=bw h.take s/\(gG P ρ h o.type f args (bw h.take t) ν (λv s μ=>some (v,s,μ)) λ_ _ _=>none)=some (v,bw h.take t,μ'):=by
  intro f args hk;unfold gG at hk |-;simp only[hp]at hk |-;obtain⟨h1,hk⟩:=bM.1 hk;have h1':(!(bw h.take t).pushed&&jV args)=true:=by rw[l2.2,hpu,<-l1.2];exact h1
  unfold callK at hk;obtain⟨out,h2,hk⟩:=bz.1 hk;cases out with
  |panic pv m=>cases hk|ret rv m=>
   dsimp only at hk;obtain⟨y,h3,_⟩:=jr hk;simp only[bJ,dp]at h3;refine⟨h3.2.1.symm,bM.2 ⟨h1',?_⟩⟩;unfold callK;refine bz.2 ⟨.ret rv m,h2,?_⟩;dsimp only;have:(eP P h.own o.type rv λv=>some (v,bw h.take t,m))=opt (eP P h.own o.type rv λv=>some (v,bw h.take s,m)) λq=>some (q.1,bw h.take t,q.2.2):=by rw[jQ];rfl
   rw[this,hk];rfl
 simp only[cP,dY,ho,hc0,e1,em]at hst |-;obtain⟨h1,hst⟩:=bM.1 hst;revert hst;generalize evA h s.fr fx=q;intro hst;cases q with
 |cv cc=>
  cases cc with
  |clo f caps=>obtain⟨k1,k2⟩:=key _ _ hst;exact⟨k1,bM.2 ⟨h1,k2⟩⟩
  |_=>cases hst
 |lclo f caps=>obtain⟨k1,k2⟩:=key _ _ hst;exact⟨k1,bM.2 ⟨h1,k2⟩⟩
 |_=>cases hst
end
section
variable {P:Program}{ρ:Rho}{h:OpHint}{o:Oper}{s t s':S}{μ ν μ':Mu}{v:LV}
def Vc (ha:Ag h o s t)(hc:gl (cO h o) s t μ ν)(hk:cO h o≠ .all)(hst:cP P ρ h o s μ=some (v,s',μ')):Eff P ρ h o (cO h o) s t μ ν v s' μ':=by
 have pl:cO h o= .plain->(∀t ν,Ag h o s t->ed P ρ h o s t μ ν)->Eff P ρ h o (cO h o) s t μ ν v s' μ':=λe hp=>by rw[e];exact Tm hp ha hst
 cases ho:o.op with
 |move x=>exact pl (by simp[cO,ho]) λt ν ha=>O9 (.inl ho) ha|assign x=>exact pl (by simp[cO,ho]) λt ν ha=>O9 (.inr ho) ha|pick c x y=>exact pl (by simp[cO,ho]) λt ν ha=>ZH ho ha|alloc ty=>exact Tl ho hc hst|box ty x=>
  cases hr:h.cell with|false=>exact YZ ho hr ha hc hst|true=>exact pl (by simp[cO,ho,hr]) λt ν ha=>ZG ho hr ha
 |build ty ps=>exact pl (by simp[cO,ho]) λt ν ha=>Xf ho ha|buildSlice ty len ps=>
  cases hr:h.arr with|true=>exact Fs ho hr ha hc hst|false=>exact pl (by simp[cO,ho,hr]) λt ν ha=>HE ho hr ha
 |load ty x=>exact Wb ho ha hc hst|store ty x y=>exact Tn ho ha hc hst|nilCheck x=>exact pl (by simp[cO,ho]) λt ν ha=>Ni ho ha|binOp op ty x y ty'=>exact pl (by simp[cO,ho]) λt ν ha=>Xe ho ha|unOp op ty x=>exact pl (by simp[cO,ho]) λt ν ha=>ZI ho ha|convert src dst x=>
  cases hr:h.arr with|true=>exact absurd (by simp[cO,ho,hr]) hk|false=>exact LF ho hr ha hc hst
 |makeInterface ty x=>exact pl (by simp[cO,ho]) λt ν ha=>CR ho ha|makeFunc fn first captured=>exact pl (by simp[cO,ho]) λt ν ha=>Nh ho ha
 |slice ty x lo hi mx=>exact pl (by simp[cO,ho]) λt ν ha=>Xi ho ha|fieldAddr ty x f=>exact pl (by simp[cO,ho]) λt ν ha=>KP ho ha|field ty x f=>exact pl (by simp[cO,ho]) λt ν ha=>Xg ho ha|indexAddr ty x y=>exact pl (by simp[cO,ho]) λt ν ha=>KQ ho ha|index ty x y=>exact pl (by simp[cO,ho]) λt ν ha=>Xh ho ha|extract x i=>exact pl (by simp[cO,ho]) λt ν ha=>Rp ho ha|panic x=>exact absurd (by simp[cO,ho]) hk|typeAssert x xt ty ok=>exact absurd (by simp[cO,ho]) hk|makeMap ty x=>exact absurd (by simp[cO,ho]) hk|makeSlice ty x y=>exact absurd (by simp[cO,ho]) hk|insert ty m x y=>exact absurd (by simp[cO,ho]) hk|mapUpdate ty m x y=>exact absurd (by simp[cO,ho]) hk|lookup ty m x ok=>exact absurd (by simp[cO,ho]) hk|call c=>
  cases hc0:c.callee with
  |builtin b=>
   by_cases hb:b= .copy
   ·subst hb;exact absurd (by simp[cO,ho,hc0]) hk
   ·exact pl (by simp only[cO,ho,hc0]) λt ν ha=>Ro ho hc0 hb ha
  |value fx=>
   cases hp:h.push with|true=>exact absurd (by simp[cO,ho,hc0,hp]) hk|false=>exact Wa ho hc0 hp ha hc hst
  |invoke r m=>simp[cP,dY,ho,hc0]at hst
 |_=>simp[cP,dY,ho]at hst
end
def fI (P:Program)(ρ:Rho)(H:Hints)(rg:Nat)(ops:Array Oper)(i:Nat)(s:S)(μ:Mu):Option (S×Mu):=
 match ops[i]? with
 |none=>none|some o=>match o.guard with
  |none=>opt (lq P ρ (H.op rg i) o s μ) λq=>some (q.2.1.put o.dst q.1,q.2.2)|some g=>opt (rC ops g.1) λd=>opt (gH (s.fr d)) λq=>match q == some g.2 with
   |true=>opt (lq P ρ (H.op rg i) o s μ) λq=>some (q.2.1.put o.dst q.1,q.2.2)|false=>some (s.put o.dst (.cv (.v Go.undef)),μ)
section
variable {P:Program}{ρ:Rho}{H:Hints}{rg:Nat}{ops:Array Oper}{α:Type}
def sW {h:OpHint}(hf:ic h=true){o:Oper}{s:S}{μ:Mu}{f:LV->S->Mu->Option α}:opK P ρ h o s μ f (λ_ _ _=>none)=opt (lq P ρ h o s μ) λq=>f q.1 q.2.1 q.2.2:=by
 unfold ic at hf;split at hf
 ·rename_i h1 h2;unfold opK;rw[h1,h2];exact Hb
 ·cases hf
def UG {i:Nat}{rest:List Nat}(hf:ic (H.op rg i)=true){s:S}{μ:Mu}{k:S->Mu->Option α}:
 gq P ρ H rg ops (i::rest) s μ k (λ_ _ _=>none)=opt (fI P ρ H rg ops i s μ) λq=>gq P ρ H rg ops rest q.1 q.2 k λ_ _ _=>none:=by
 simp only[gq,fI];cases ops[i]? with
 |none=>rfl|some o=>
  dsimp only;cases o.guard with
  |none=>dsimp only;rw[sW hf,bV];rfl|some g=>
   dsimp only;simp only[bV];congr;funext d;cases hq:gH (s.fr d)with
   |none=>rfl|some q=>
    cases q with
    |none=>rfl|some b=>simp only[cF];have hb:=ny hq;have hd:=iT hb;obtain⟨j,want⟩:=g;cases b<;>cases want<;>simp only[bY,bW,S.set_self s d _ hd,sW hf,bV,cF,beq_self_eq_true]<;>rfl
def kr (P:Program)(ρ:Rho)(H:Hints)(rg:Nat)(ops:Array Oper)(i:Nat)(o:Oper)(s:S)(μ:Mu):Option (LV×S×Mu):=
 match o.guard with
 |none=>lq P ρ (H.op rg i) o s μ|some g=>opt (rC ops g.1) λd=>opt (gH (s.fr d)) λq=>match q == some g.2 with
  |true=>lq P ρ (H.op rg i) o s μ|false=>some (.cv (.v Go.undef),s,μ)
def pg {i:Nat}{o:Oper}(ho:ops[i]? =some o){s:S}{μ:Mu}:fI P ρ H rg ops i s μ=opt (kr P ρ H rg ops i o s μ) λq=>some (q.2.1.put o.dst q.1,q.2.2):=by
 simp only[fI,kr,ho];cases o.guard with|none=>rfl|some g=>dsimp only;simp only[bV];congr;funext d;congr;funext b;cases b == some g.2<;>rfl
def vT (P:Program)(ρ:Rho)(H:Hints)(rg:Nat)(ops:Array Oper)(i:Nat)(o:Oper)(T:List Nat)(k:Kind)(s t:S)(μ ν:Mu)(v:LV)(s':S)(μ':Mu):Prop:=
 match k with
 | .plain=>s'=bw T s/\μ'=μ/\kr P ρ H rg ops i o t ν=some (v,bw T t,ν)| .rd=>s'=bw T s/\μ'=μ/\kr P ρ H rg ops i o t ν=some (v,bw T t,ν)| .tk=> ∃lam',s'={bw T s with lam:=lam'}/\μ'=μ/\(∀i,SameOb (bQ s.lam i) (bQ lam' i))/\t.lam=s.lam/\kr P ρ H rg ops i o t ν=some (v,{bw T t with lam:=lam'},ν)| .wr=> ∃lam',s'={bw T s with lam:=lam'}/\μ'=μ/\kr P ρ H rg ops i o t ν=some (v,{bw T t with lam:=lam'},ν)| .ap=> ∃ob,s'={bw T s with lam:=s.lam++[ob]}/\μ'=μ/\kr P ρ H rg ops i o t ν=some (v,{bw T t with lam:=t.lam++[ob]},ν)| .look=>s'=bw T s/\μ'=μ/\kr P ρ H rg ops i o t ν=some (v,bw T t,ν)| .tku=>s'=bw T s/\(∀lev i,SameOb (b7 μ lev i) (b7 μ' lev i))/\ν=μ/\kr P ρ H rg ops i o t ν=some (v,bw T t,μ')| .ou=>s'=bw T s/\kr P ρ H rg ops i o t ν=some (v,bw T t,μ')| .all=>False
def AgR (hh:OpHint)(ops:Array Oper)(o:Oper)(s t:S):Prop:= ∀u,u∈o.looksAt ops->t.fr u=s.fr u\/(iV hh.take u=false/\strip (t.fr u)=strip (s.fr u))
def uZ (x:LV):gH (strip x)=gH x:=by cases x<;>rfl
def AgR.ag {hh:OpHint}{o:Oper}{s t:S}(h:AgR hh ops o s t):Ag hh o s t:=by
 intro x hx;cases x with
 |tmp u=>
  have hu:u∈o.looksAt ops:=by unfold Oper.looksAt;grind
  simp only[evA];rcases h u hu with e|⟨e1,e2⟩
  all_goals simp_all
 |const c=>rfl|global g=>rfl|func f=>rfl
def AgR.guard {hh:OpHint}{o:Oper}{s t:S}(h:AgR hh ops o s t){g:Nat×Bool}(hg:o.guard=some g){d:Nat}(hd:rC ops g.1=some d):gH (t.fr d)=gH (s.fr d):=by
 suffices hs:d∈o.looksAt ops by
  rcases h d hs with e|⟨_,e⟩
  ·rw[e]
  ·rw[<-uZ,e,uZ]
 unfold Oper.looksAt;refine Pp _ ?_;rw[hg];obtain⟨j,b⟩:=g;simp only[rC]at hd;grind
def Cu {i:Nat}{o:Oper}{s t s':S}{μ ν μ':Mu}{v:LV}(ha:AgR (H.op rg i) ops o s t)(hk:fm (H.op rg i) o≠ .all)(hst:kr P ρ H rg ops i o s μ=some (v,s',μ')):
 ∃T k,(T=(H.op rg i).take\/T=[])/\(k=fm (H.op rg i) o\/k= .plain)/\ ∀t ν,AgR (H.op rg i) ops o s t->gl (fm (H.op rg i) o) s t μ ν->vT P ρ H rg ops i o T k s t μ ν v s' μ':=by
 have hhd:(H.op rg i).hide=none:=by
  cases hh:(H.op rg i).hide with|none=>rfl|some t=>exact absurd (by simp only[fm,hh]) hk
 have hkk:fm (H.op rg i) o=cO (H.op rg i) o:=by simp only[fm,hhd]
 have hsh: ∀s μ,lq P ρ (H.op rg i) o s μ=cP P ρ (H.op rg i) o s μ:=λs μ=>by simp only[lq,hhd]
 rw[hkk]at hk |-;have run:kr P ρ H rg ops i o s μ=cP P ρ (H.op rg i) o s μ->(∀t ν,AgR (H.op rg i) ops o s t->kr P ρ H rg ops i o t ν=cP P ρ (H.op rg i) o t ν)->
  ∃T k,(T=(H.op rg i).take\/T=[])/\(k=cO (H.op rg i) o\/k= .plain)/\ ∀t ν,AgR (H.op rg i) ops o s t->gl (cO (H.op rg i) o) s t μ ν->vT P ρ H rg ops i o T k s t μ ν v s' μ':=by
  intro e1 e2;rw[e1]at hst;refine⟨_,_,.inl rfl,.inl rfl,λt ν ha hc=> ?_⟩;have:=Vc ha.ag hc hk hst;unfold Eff at this;unfold vT;rw[e2 t ν ha];revert this hk;cases cO (H.op rg i) o<;>intro hk this<;>first|exact this|exact absurd rfl hk
 cases hg:o.guard with
 |none=>exact run (by simp only[kr,hg,hsh]) λt ν _=>by simp only[kr,hg,hsh]|some g=>
  have hst':=hst;simp only[kr,hg]at hst';obtain⟨d,hd,hst'⟩:=bz.1 hst';obtain⟨b,hb,hst'⟩:=bz.1 hst';cases hbg:b == some g.2 with
  |true=>refine run (by simp only[kr,hg,hd,hb,cF,hbg,hsh]) λt ν ha=> ?_;have:=ha.guard hg hd;simp only[kr,hg,hd,this,hb,cF,hbg,hsh]|false=>rw[hbg]at hst';simp only[bJ,dp]at hst';obtain⟨rfl,rfl,rfl⟩:=hst';refine⟨[],.plain,.inr rfl,.inr rfl,λt ν ha hc=>⟨rfl,rfl,?_⟩⟩;have:=ha.guard hg hd;simp only[kr,hg,hd,this,hb,cF,hbg,bw]
def CQ (u:Nat):List Nat->LV->LV
 |[],x=>x|t::r,x=>CQ u r (if u=t then strip x else x)
def phi (T:List Nat)(dst:Option Nat)(v:LV)(u:Nat)(x:LV):LV:=if dst=some u then v else CQ u T x
def kX: ∀(T:List Nat) (s:S) (u:Nat),(bw T s).fr u=CQ u T (s.fr u)
 |[],s,u=>rfl|t::r,s,u=>by
  simp only[bw,CQ];rw[kX r];congr 1;by_cases hu:u=t
  ·subst hu;simp only[S.set,jt,cX]
  ·simp only[S.set,iA _ _ hu,bE hu]
def gO {s':S}{T:List Nat}{s:S}{dst:Option Nat}{v:LV}(h:s'.fr=(bw T s).fr)(u:Nat):(s'.put dst v).fr u=phi T dst v u (s.fr u):=by
 unfold phi;cases dst with
 |none=>simp only[S.put,h,kX,reduceCtorEq,dG]|some d=>
  by_cases hu:u=d
  ·subst hu;simp only[S.put,S.set,jt,cX]
  ·have: ¬(some d=some u):=λe=>hu (gY e).symm;simp only[S.put,S.set,iA _ _ hu,h,kX,bE this]
def Em {u:Nat}: ∀{T:List Nat} {x:LV},u ∉ T->CQ u T x=x
 |[],x,_=>rfl|t::r,x,h=>by simp only[eE,not_or]at h;simp only[CQ,bE h.1];exact Em h.2
def fg {T:List Nat}{dst:Option Nat}{v:LV}{u:Nat}{x:LV}(h1:dst≠some u)(h2:u ∉ T):phi T dst v u x=x:=by unfold phi;rw[bE h1,Em h2]
def jd (s:S)(dst:Option Nat)(v:LV):(s.put dst v).lam=s.lam/\(s.put dst v).pushed=s.pushed:=by cases dst<;>exact⟨rfl,rfl⟩
end
section
variable {P:Program}{ρ:Rho}{H:Hints}{rg:Nat}{ops:Array Oper}
def rc (k:Kind)(s s1:S)(μ μ1:Mu):Prop:=
 s1.pushed=s.pushed/\match k with
 | .plain=>s1.lam=s.lam/\μ1=μ| .rd=>s1.lam=s.lam/\μ1=μ| .tk=>μ1=μ/\ ∀i,SameOb (bQ s.lam i) (bQ s1.lam i)| .wr=>μ1=μ| .ap=>(∃ob,s1.lam=s.lam++[ob])/\μ1=μ| .look=>s1.lam=s.lam/\μ1=μ| .tku=>s1.lam=s.lam/\ ∀lev i,SameOb (b7 μ lev i) (b7 μ1 lev i)| .ou=>s1.lam=s.lam| .all=>False
def vT.left {i:Nat}{o:Oper}{T:List Nat}{k:Kind}{s t s':S}{μ ν μ':Mu}{v:LV}(h:vT P ρ H rg ops i o T k s t μ ν v s' μ'):rc k s s' μ μ'/\s'.fr=(bw T s).fr:=by
 have l:=ci T s;unfold vT at h;unfold rc;cases k with
 |plain=>obtain⟨rfl,rfl,_⟩:=h;exact⟨⟨l.2,l.1,rfl⟩,rfl⟩
 |rd=>obtain⟨rfl,rfl,_⟩:=h;exact⟨⟨l.2,l.1,rfl⟩,rfl⟩
 |tk=>obtain⟨lam',rfl,rfl,hs,_⟩:=h;exact⟨⟨l.2,rfl,hs⟩,rfl⟩
 |wr=>obtain⟨lam',rfl,rfl,_⟩:=h;exact⟨⟨l.2,rfl⟩,rfl⟩
 |ap=>obtain⟨ob,rfl,rfl,_⟩:=h;exact⟨⟨l.2,⟨ob,rfl⟩,rfl⟩,rfl⟩
 |look=>obtain⟨rfl,rfl,_⟩:=h;exact⟨⟨l.2,l.1,rfl⟩,rfl⟩
 |tku=>obtain⟨rfl,hs,_⟩:=h;exact⟨⟨l.2,l.1,hs⟩,rfl⟩
 |ou=>obtain⟨rfl,_⟩:=h;exact⟨⟨l.2,l.1⟩,rfl⟩
 |all=>exact h.elim
def SO {kj ki:Kind}(hm:gp kj ki=true\/kj= .plain)(hki:ki≠ .all){s s1:S}{μ μ1:Mu}(h:rc kj s s1 μ μ1):gl ki s1 s μ1 μ:=by
 unfold rc at h;obtain⟨hp,h⟩:=h;cases kj<;>cases ki<;>simp_all [gp,gl]
 all_goals
  intro i _
  first
  |exact .refl _|(rw[h.1];exact .refl _)|exact(h.2 i).symm|(intro _;exact .refl _)|(intro _;exact(h.2 _ _).symm)
def V7 {kj ki:Kind}(hm:gp kj ki=true\/ki= .plain)(hkj:kj≠ .all){s t1:S}{μ ν1:Mu}(h:rc ki s t1 μ ν1):gl kj s t1 μ ν1:=by
 unfold rc at h;obtain⟨hp,h⟩:=h;cases kj<;>cases ki<;>simp_all [gp,gl]
 all_goals
  intro i hi
  first
  |exact .refl _|(rw[h.1];exact .refl _)|exact h.2 i|(intro _;exact .refl _)|exact h.2 _ _|(intro _;exact h.2 _ _)|(obtain⟨⟨ob,h1⟩,h2⟩:=h;rw[h1,mh (ld hi)];exact .refl _)
def Mem (k:Kind)(a b:Lam)(μ ν:Mu)(a' b':Lam)(μ' ν':Mu):Prop:=
 match k with
 | .plain=>a'=a/\b'=b/\μ'=μ/\ν'=ν| .rd=>a'=a/\b'=b/\μ'=μ/\ν'=ν| .tk=>b'=a'/\μ'=μ/\ν'=ν| .wr=>b'=a'/\μ'=μ/\ν'=ν| .ap=>(∃ob,a'=a++[ob]/\b'=b++[ob])/\μ'=μ/\ν'=ν| .look=>a'=a/\b'=b/\μ'=μ/\ν'=ν| .tku=>a'=a/\b'=b/\ν'=μ'| .ou=>a'=a/\b'=b/\ν'=μ'| .all=>False
def vT.out {i:Nat}{o:Oper}{T:List Nat}{k:Kind}{s t s':S}{μ ν μ':Mu}{v:LV}(h:vT P ρ H rg ops i o T k s t μ ν v s' μ'):
 ∃X ν',kr P ρ H rg ops i o t ν=some (v,X,ν')/\X.fr=(bw T t).fr/\X.pushed=t.pushed/\Mem k s.lam t.lam μ ν s'.lam X.lam μ' ν'/\rc k t X ν ν':=by
 have l:=ci T s;have l2:=ci T t;unfold vT at h;cases k with
 |plain=>obtain⟨rfl,rfl,h⟩:=h;exact⟨_,_,h,rfl,l2.2,⟨l.1,l2.1,rfl,rfl⟩,l2.2,l2.1,rfl⟩
 |rd=>obtain⟨rfl,rfl,h⟩:=h;exact⟨_,_,h,rfl,l2.2,⟨l.1,l2.1,rfl,rfl⟩,l2.2,l2.1,rfl⟩
 |tk=>obtain⟨lam',rfl,rfl,hs,ht,h⟩:=h;exact⟨_,_,h,rfl,l2.2,⟨rfl,rfl,rfl⟩,l2.2,rfl,by rw[ht];exact hs⟩
 |wr=>obtain⟨lam',rfl,rfl,h⟩:=h;exact⟨_,_,h,rfl,l2.2,⟨rfl,rfl,rfl⟩,l2.2,rfl⟩
 |ap=>obtain⟨ob,rfl,rfl,h⟩:=h;exact⟨_,_,h,rfl,l2.2,⟨⟨ob,rfl,rfl⟩,rfl,rfl⟩,l2.2,⟨ob,rfl⟩,rfl⟩
 |look=>obtain⟨rfl,rfl,h⟩:=h;exact⟨_,_,h,rfl,l2.2,⟨l.1,l2.1,rfl,rfl⟩,l2.2,l2.1,rfl⟩
 |tku=>obtain⟨rfl,hs,rfl,h⟩:=h;exact⟨_,_,h,rfl,l2.2,⟨l.1,l2.1,rfl⟩,l2.2,l2.1,hs⟩
 |ou=>obtain⟨rfl,h⟩:=h;exact⟨_,_,h,rfl,l2.2,⟨l.1,l2.1,rfl⟩,l2.2,l2.1⟩
 |all=>exact h.elim
def hZ: ∀{a b:List Nat},nb a b=true-> ∀x,x∈a->x ∉ b
 |[],b,_,x,hx=>by simp at hx|y::r,b,h,x,hx=>by
  simp only[nb]at h;split at h
  ·cases h
  ·rename_i hm;rcases eE.1 hx with rfl|hx
   ·intro hb;rw[fR.2 hb]at hm;cases hm
   ·exact hZ h x hx
def lM {h:OpHint}{o:Oper}{u:Nat}:u∈eo h o↔o.dst=some u\/u∈h.take:=by unfold eo;grind
def gk {h:OpHint}{o:Oper}{u:Nat}(hu:u ∉ eo h o){T:List Nat}(hT:T=h.take\/T=[]):o.dst≠some u/\u ∉ T:=by rw[lM,not_or]at hu;grind
def Lo {kj ki kj' ki':Kind}(h:gp kj ki=true)(hj:kj'=kj\/kj'= .plain)(hi:ki'=ki\/ki'= .plain):gp kj' ki'=true:=by rcases hj with e|e<;>rcases hi with e'|e'<;>rw[e,e']<;>cases kj<;>cases ki<;>simp_all [gp]
def Wy {kj ki:Kind}{l l1 l2 t1 y:Lam}{μ μ1 μ2 ν1 ν2:Mu}(ha:gp kj ki=true)(hb:Mem ki l1 l μ1 μ l2 t1 μ2 ν1)(hc:Mem kj l t1 μ ν1 l1 y μ1 ν2):y=l2/\ν2=μ2:=by
 cases kj<;>cases ki<;>simp only[gp,eD]at ha<;>simp only[Mem]at hb hc
 all_goals first
  |(obtain⟨a1,a2,a3,a4⟩:=hb;obtain⟨b1,b2,b3,b4⟩:=hc;subst_vars;exact⟨rfl,rfl⟩)|(obtain⟨⟨ob,a1,a2⟩,a3,a4⟩:=hb;obtain⟨b1,b2,b3,b4⟩:=hc;subst_vars;exact⟨rfl,rfl⟩)|(obtain⟨a1,a2,a3⟩:=hb;obtain⟨b1,b2,b3,b4⟩:=hc;subst_vars;exact⟨rfl,rfl⟩)|(obtain⟨a1,a2,a3,a4⟩:=hb;obtain⟨b1,b2,b3⟩:=hc;subst_vars;exact⟨rfl,rfl⟩)|(obtain⟨⟨ob,a1,a2⟩,a3,a4⟩:=hb;obtain⟨⟨ob2,b1,b2⟩,b3,b4⟩:=hc;subst_vars;exact⟨rfl,rfl⟩)|(obtain⟨a1,a2,a3⟩:=hb;obtain⟨b1,b2,b3⟩:=hc;subst_vars;exact⟨rfl,rfl⟩)|(obtain⟨a1,a2,a3,a4⟩:=hb;obtain⟨⟨ob,b1,b2⟩,b3,b4⟩:=hc;subst_vars;exact⟨rfl,rfl⟩)|(obtain⟨a1,a2,a3⟩:=hb;obtain⟨⟨ob,b1,b2⟩,b3,b4⟩:=hc;subst_vars;exact⟨rfl,rfl⟩)|(obtain⟨⟨ob,a1,a2⟩,a3,a4⟩:=hb;obtain⟨b1,b2,b3⟩:=hc;subst_vars;exact⟨rfl,rfl⟩)
def qO {T:List Nat}{dst:Option Nat}{v:LV}{u:Nat}{x:LV}(h1:dst≠some u):strip (phi T dst v u x)=strip x:=by
 unfold phi;rw[bE h1]
 induction T generalizing x with
 |nil=>rfl|cons t r ih=>
  simp only[CQ];rw[ih];split
  ·exact BT x
  ·rfl
def z7 {h:OpHint}{o:Oper}{t:Nat}(hx:AO h o t=true):o.guard=none/\(∃ty,o.op= .load ty (.tmp t))/\h.cell=true/\h.hide=none:=by
 unfold AO at hx;split at hx
 ·rename_i ty u hg ho;simp only[cM]at hx;have e:=eC hx.1.1;grind
 ·cases hx
def Bt {hx hy:OpHint}{x y:Oper}(h:oP hx x hy y=true): ∃t c fx,hy.hide=some t/\y.guard=none/\y.op= .call c/\c.callee= .value fx/\AO hx x t=true/\t ∉ eo hx x/\t ∉ eo hy y:=by
 unfold oP at h;split at h
 ·rename_i t c h1 h2 h3;split at h
  ·rename_i fx h4;simp only[cM,jv]at h;refine⟨t,c,fx,h1,h2,h3,h4,h.1.1,λhm=> ?_,λhm=> ?_⟩
   ·rw[fR.2 hm]at h;simp at h
   ·rw[fR.2 hm]at h;simp at h
  ·cases h
 ·cases h
def GF {β:Type}{h:OpHint}{ty:TypeId}{f:FuncId}{args:List LV}{s:S}{μ:Mu}{g:Fr}{k:LV->S->Mu->Option β}{p:CV->S->Mu->Option β}:
 gG P ρ h ty f args {s with fr:=g} μ k p=gG P ρ h ty f args s μ (λv s μ=>k v {s with fr:=g} μ) (λv s μ=>p v {s with fr:=g} μ):=by
 rfl
def nC {h:OpHint}{o:Oper}{c:Call}{fx:Operand}{s t:S}{μ:Mu}(ho:o.op= .call c)(hc0:c.callee= .value fx)(ha:Ag h o s t)(hl:t.lam=s.lam)(hpu:t.pushed=s.pushed):
 cP P ρ h o t μ=opt (cP P ρ h o s μ) λq=>some (q.1,{q.2.1 with fr:=(bw h.take t).fr},q.2.2):=by
 have e1:=ha fx (by simp[ho,Op.operands,Call.operands,hc0]);have em:c.args.toList.map (evA h t.fr)=c.args.toList.map (evA h s.fr):=vS λx hx=>ha x (by simp[ho,Op.operands,Call.operands,hc0];right;simpa using hx);have l1:=ci h.take s;have l2:=ci h.take t;have est:bw h.take t={bw h.take s with fr:=(bw h.take t).fr}:=by
  have a1:(bw h.take t).lam=(bw h.take s).lam:=by rw[l2.1,l1.1,hl]
  have a2:(bw h.take t).pushed=(bw h.take s).pushed:=by rw[l2.2,l1.2,hpu]
  revert a1 a2;generalize bw h.take t=A;generalize bw h.take s=B;intro a1 a2;cases A;cases B;simp only at a1 a2;rw[a1,a2]
 have key: ∀(f:FuncId) (args:List LV),(gG P ρ h o.type f args (bw h.take t) μ (λv s μ=>some (v,s,μ)) λ_ _ _=>none)=
  opt (gG P ρ h o.type f args (bw h.take s) μ (λv s μ=>some (v,s,μ)) λ_ _ _=>none) λq=>some (q.1,{q.2.1 with fr:=(bw h.take t).fr},q.2.2):=by
  intro f args
  conv=>lhs;rw[est]
  rw[GF,rH];rfl
 simp only[cP,dY,ho,hc0,e1,em,cU];congr 1;generalize evA h s.fr fx=q;cases q with
 |cv cc=>
  cases cc with|clo f caps=>exact key _ _|_=>rfl
 |lclo f caps=>exact key _ _|_=>rfl
def D4 {μ:Mu}{lev i:Nat}{o:Ob}(h:za μ lev i=true):b7 (cq μ lev i o) lev i=o:=by
 unfold za at h;split at h
 ·rename_i l hl;have h1:lev<μ.length:=(dm.1 hl).1;have h2:i<l.length:=by simpa[ot]using h
  simp only[cq,hl,b7,tf h1,tf h2]
 ·cases h
def jP {μ:Mu}{lev i:Nat}{o o':Ob}:cq (cq μ lev i o) lev i o'=cq μ lev i o':=by
 cases hl:μ[lev]? with
 |none=>simp only[cq,hl]|some l=>
  have h1:lev<μ.length:=(dm.1 hl).1;have e: ∀x,cq μ lev i x=μ.set lev (l.set i x):=λx=>by simp only[cq,hl]
  rw[e,e];simp only[cq,tf h1,Bc]
def OO {μ:Mu}{lev i:Nat}(h:b6 (b7 μ lev i)):za μ lev i=true:=by
 unfold b7 at h;unfold za;split at h
 ·rename_i l hl;split at h
  ·rename_i x hx;have:=(dm.1 hx).1;simp_all
  ·exact h.elim
 ·exact h.elim
def qf {ty:TypeId}{ob:Ob}{off:Nat}{q:LV×Ob}(h:gh P ty ob off=some q):b6 ob/\b6 q.2:=by
 unfold gh at h;obtain⟨_,_,h⟩:=bz.1 h;split at h<;>try(cases h;done)
 split at h<;>try(cases h;done)
 split at h<;>try(cases h;done)
 simp only[bJ]at h;subst h;exact⟨trivial,trivial⟩
def Dg {A B:S}(h1:A.fr=B.fr)(h2:A.lam=B.lam)(h3:A.pushed=B.pushed):A=B:=by cases A;cases B;simp only at h1 h2 h3;rw[h1,h2,h3]
def OL {s A B C D:S}{Tj Ti:List Nat}{dj di:Option Nat}{vj vi:LV}{hj hi:OpHint}{oj oi:Oper}(hdj:oj.dst=dj)(hdi:oi.dst=di)(hTj:Tj=hj.take)(hTi:Ti=hi.take)
 (d2:nb (eo hj oj) (eo hi oi)=true) (h1:A.fr=(bw Tj s).fr) (h2:B.fr=(bw Ti (A.put dj vj)).fr) (h3:C.fr=(bw Ti s).fr) (h4:D.fr=(bw Tj (C.put di vi)).fr):
 (D.put dj vj).fr=(B.put di vi).fr:=by
 subst hdj hdi hTj hTi;funext u;rw[gO h4 u,gO h3 u,gO h2 u,gO h1 u];by_cases hu:u∈eo hj oj
 ·have hnw:=hZ d2 u hu;obtain⟨n1,n2⟩:=gk hnw (.inl rfl);rw[fg n1 n2,fg n1 n2]
 ·obtain⟨n1,n2⟩:=gk hu (.inl rfl);rw[fg n1 n2,fg n1 n2]
def Np {i j:Nat}{s s1 s2:S}{μ μ1 μ2:Mu}{oj oi:Oper}(hj:ops[j]? =some oj)(hi:ops[i]? =some oi)(d1:nb (re oj) (oi.looksAt ops)=true)(d2:nb (eo (H.op rg j) oj) (eo (H.op rg i) oi)=true)
 (d3:nb (re oi) (oj.looksAt ops)=true) (hm:oP (H.op rg j) oj (H.op rg i) oi=true) (h1:fI P ρ H rg ops j s μ=some (s1,μ1)) (h2:fI P ρ H rg ops i s1 μ1=some (s2,μ2)):
 ∃t1 ν1,fI P ρ H rg ops i s μ=some (t1,ν1)/\fI P ρ H rg ops j t1 ν1=some (s2,μ2):=by
 obtain⟨t,c,fx,hh,hg,hop,hcl,htk,htj,hti⟩:=Bt hm;obtain⟨hgj,⟨ty,hopj⟩,hcell,hhj⟩:=z7 htk;have stJ: ∀s μ,fI P ρ H rg ops j s μ=opt (cP P ρ (H.op rg j) oj s μ) λq=>some (q.2.1.put oj.dst q.1,q.2.2):=λs μ=>by simp only[fI,hj,hgj,lq,hhj]
 have stI: ∀s μ,fI P ρ H rg ops i s μ=opt (gI t s μ λpl ob s μ=>opt (cP P ρ (H.op rg i) oi s μ) λq=>iY pl ob q.2.1 q.2.2 λs μ=>some (q.1,s,μ)) λq=>some (q.2.1.put oi.dst q.1,q.2.2):=λs μ=>by simp only[fI,hi,hg,lq,hh]
 have ntj:=gk htj (T:=(H.op rg j).take) (.inl rfl);have nti:=gk hti (T:=(H.op rg i).take) (.inl rfl);have stL: ∀s μ,cP P ρ (H.op rg j) oj s μ=jA P (H.op rg j) ty (strip (s.fr t)) (bw (H.op rg j).take s) μ λv s μ=>some (v,s,μ):=λs μ=>by
  have:iV (H.op rg j).take t=false:=by
   cases hm:iV (H.op rg j).take t with|false=>rfl|true=>exact absurd (fR.1 hm) ntj.2
  simp only[cP,dY,hopj,evA,this]
 rw[stJ]at h1;obtain⟨⟨vj,sj,μj⟩,g1,e1⟩:=bz.1 h1;simp only[bJ,dp]at e1;obtain⟨rfl,rfl⟩:=e1;rw[stL]at g1;rw[stI]at h2;obtain⟨⟨vi,si,μi⟩,g2,e2⟩:=bz.1 h2;simp only[bJ,dp]at e2;obtain⟨rfl,rfl⟩:=e2;have lj:=ci (H.op rg j).take s;have hput:=jd sj oj.dst vj;have hag: ∀{X Y:S},sj.fr=(bw (H.op rg j).take s).fr->X.fr=(sj.put oj.dst vj).fr->Y.fr=s.fr->Ag (H.op rg i) oi X Y:=by
  intro X Y hfr hX hY;refine AgR.ag (ops:=ops) λu hu=> ?_;rw[hX,hY];have hnd:oj.dst≠some u:=λh=>hZ d1 u (by simp[re,h]) hu;rw[gO hfr u];by_cases hw:u∈eo (H.op rg j) oj
  ·right;refine⟨?_,(qO hnd).symm⟩;cases hm:iV (H.op rg i).take u with|false=>rfl|true=>exact absurd (lM.2 (.inr (fR.1 hm))) (hZ d2 u hw)
  ·obtain⟨n1,n2⟩:=gk hw (.inl rfl);exact .inl (fg n1 n2).symm
 have hfrt:sj.fr=(bw (H.op rg j).take s).fr->(sj.put oj.dst vj).fr t=s.fr t:=λhfr=>by rw[gO hfr t,fg ntj.1 ntj.2]
 have hfrt2: ∀{C:S},C.fr=(bw (H.op rg i).take s).fr->(C.put oi.dst vi).fr t=s.fr t:=λhfr=>by rw[gO hfr t,fg nti.1 nti.2]
 unfold jA at g1;rw[hcell]at g1;cases hx:s.fr t with
 |loc ix off=>
  rw[hx]at g1;simp only[strip]at g1;cases hou:(H.op rg j).outer with
  |true=>rw[hou]at g1;cases g1|false=>
  rw[hou]at g1;dsimp only at g1;obtain⟨q,k1,k2⟩:=bz.1 g1;simp only[bJ,dp]at k2;obtain⟨rfl,esj,rfl⟩:=k2;rw[lj.1]at k1 esj;have hsfr:sj.fr=(bw (H.op rg j).take s).fr:=by rw[<-esj]
  have hslam:sj.lam=s.lam.set ix q.2:=by rw[<-esj]
  have hspu:sj.pushed=s.pushed:=by rw[<-esj];exact lj.2
  obtain⟨lv1,lv2⟩:=qf k1;have hix:=ld lv1;have hft:=hfrt hsfr;rw[hx]at hft;have elam:(sj.put oj.dst q.1).lam=s.lam.set ix q.2:=by rw[hput.1,hslam]
  have epu:(sj.put oj.dst q.1).pushed=s.pushed:=by rw[hput.2,hspu]
  unfold gI at g2;rw[hft]at g2;dsimp only at g2;have hps:s.pushed=true:=by
   cases hp:s.pushed with|true=>rfl|false=>rw[epu,hp]at g2;cases g2
  have epu2:(sj.put oj.dst q.1).pushed=true:=by rw[epu,hps]
  rw[epu2]at g2;dsimp only at g2;obtain⟨_,g2⟩:=bM.1 g2;obtain⟨⟨v,s',μ'⟩,c1,c2⟩:=bz.1 g2;simp only[iY]at c2;obtain⟨c3,c4⟩:=bM.1 c2;simp only[bJ,dp]at c4;obtain⟨rfl,rfl,rfl⟩:=c4;simp only[cM]at c3;have hlen:ix<s'.lam.length:=by simpa[ot]using c3.1
  have eob:bQ (s.lam.set ix q.2) ix=q.2:=by rw[qF hix,bK rfl]
  have eX:({sj.put oj.dst q.1 with lam:=(sj.put oj.dst q.1).lam.set ix .dead,pushed:=true}:S)={sj.put oj.dst q.1 with lam:=(sj.put oj.dst q.1).lam.set ix .dead}:=by rw[<-epu2]
  have c5:=nC (h:=H.op rg i) (P:=P) (ρ:=ρ) (μ:=μ) hop hcl (hag (X:={sj.put oj.dst q.1 with lam:=(sj.put oj.dst q.1).lam.set ix .dead}) (Y:={s with lam:=s.lam.set ix .dead}) hsfr rfl rfl)
   (by simp only[elam,Bc]) (by simp only[epu])
  have c6:=nC (h:=H.op rg i) (P:=P) (ρ:=ρ) (μ:=μ) hop hcl (Ag.self (s:={sj.put oj.dst q.1 with lam:=(sj.put oj.dst q.1).lam.set ix .dead})) rfl rfl;have c1':cP P ρ (H.op rg i) oi {sj.put oj.dst q.1 with lam:=(sj.put oj.dst q.1).lam.set ix .dead} μ=some (v,s',μ'):=by rw[<-c1];congr 1;exact Dg rfl rfl epu2
  rw[c1']at c5 c6;simp only[cF]at c5 c6;simp only[bJ,dp,kK,j6]at c6;have hfs:s'.fr=(bw (H.op rg i).take {sj.put oj.dst q.1 with lam:=(sj.put oj.dst q.1).lam.set ix .dead}).fr:=by rw[c6]
  refine⟨S.put {s' with fr:=(bw (H.op rg i).take {s with lam:=s.lam.set ix .dead}).fr,lam:=s'.lam.set ix (bQ s.lam ix)} oi.dst v,μ',?_,?_⟩
  ·rw[stI];unfold gI;rw[hx,hps];dsimp only;have eY:cP P ρ (H.op rg i) oi {fr:=s.fr,lam:=s.lam.set ix .dead,pushed:=true} μ=cP P ρ (H.op rg i) oi {s with lam:=s.lam.set ix .dead} μ:=by rw[<-hps]
   rw[bB,lK.2 lv1,bY,eY,c5];simp only[cF,iY,bB,c3.1,c3.2,pk,bY,hps]
  ·have hft2:=hfrt2 (C:={s' with fr:=(bw (H.op rg i).take {s with lam:=s.lam.set ix .dead}).fr,lam:=s'.lam.set ix (bQ s.lam ix)}) (by funext u;rw[kX,kX]);have hput3:=jd {s' with fr:=(bw (H.op rg i).take {s with lam:=s.lam.set ix .dead}).fr,lam:=s'.lam.set ix (bQ s.lam ix)} oi.dst v;rw[stJ,stL,hft2,hx];simp only[strip,jA,hou,hcell];have l3:=ci (H.op rg j).take (S.put {s' with fr:=(bw (H.op rg i).take {s with lam:=s.lam.set ix .dead}).fr,lam:=s'.lam.set ix (bQ s.lam ix)} oi.dst v);rw[l3.1,hput3.1];simp only[qF hlen,bK,k1,cF,bJ,dp,j6,Bc];have hputD:=jd {bw (H.op rg j).take (S.put {s' with fr:=(bw (H.op rg i).take {s with lam:=s.lam.set ix .dead}).fr,lam:=s'.lam.set ix (bQ s.lam ix)} oi.dst v)with lam:=s'.lam.set ix q.2} oj.dst q.1;have hputB:=jd {s' with lam:=s'.lam.set ix (bQ (sj.put oj.dst q.1).lam ix)} oi.dst v;refine Dg ?_ ?_ ?_
   ·refine OL (s:=s) rfl rfl rfl rfl d2 (A:=sj) (C:={s' with fr:=(bw (H.op rg i).take {s with lam:=s.lam.set ix .dead}).fr,lam:=s'.lam.set ix (bQ s.lam ix)}) hsfr ?_ ?_ rfl
    ·simp only;rw[hfs];funext u;rw[kX,kX]
    ·funext u;simp only[kX]
   ·rw[hputD.1,hputB.1,elam,eob]
   ·rw[hputD.2,hputB.2];simp only;rw[l3.2,hput3.2]
 |cv cc=>
  rw[hx]at g1;simp only[strip]at g1;cases hou:(H.op rg j).outer with
  |false=>rw[hou]at g1;dsimp only at g1;obtain⟨cs,v1,g1⟩:=bz.1 g1;obtain⟨c',v2,v3⟩:=bz.1 g1;simp only[bJ,dp]at v3;obtain⟨rfl,rfl,rfl⟩:=v3;have hft:=hfrt rfl;rw[hx]at hft;unfold gI at g2;rw[hft]at g2;dsimp only at g2;obtain⟨q,r1,_⟩:=bz.1 g2;cases cc<;>simp[f8,oO]at v1 r1
  |true=>
  rw[hou]at g1;dsimp only at g1;obtain⟨⟨lev,ix,off⟩,r1,g1⟩:=bz.1 g1;obtain⟨q,k1,k2⟩:=bz.1 g1;have key: ∀(X:S) (M:Mu),(eP P true ty q.1 λv=>some (v,X,M))=some (vj,X,M):=by
   intro X M;have:(eP P true ty q.1 λv=>some (v,X,M))=opt (eP P true ty q.1 λv=>some (v,bw (H.op rg j).take s,cq μ lev ix q.2)) λq=>some (q.1,X,M):=by rw[jQ];rfl
   rw[this,k2];rfl
  have k3:=key (bw (H.op rg j).take s) (cq μ lev ix q.2);rw[k3]at k2;simp only[bJ,dp,kK]at k2;obtain⟨rfl,rfl⟩:=k2;obtain⟨lv1,lv2⟩:=qf k1;have hin:=OO lv1;have hft:=hfrt rfl;rw[hx]at hft;unfold gI at g2;rw[hft]at g2;dsimp only at g2;rw[r1,cF]at g2;dsimp only at g2;obtain⟨_,g2⟩:=bM.1 g2;rw[D4 hin,jP]at g2;obtain⟨⟨v,s',μ'⟩,c1,c2⟩:=bz.1 g2;simp only[iY]at c2;obtain⟨c3,c4⟩:=bM.1 c2;simp only[bJ,dp]at c4;obtain⟨rfl,rfl,rfl⟩:=c4;simp only[cM]at c3;have elam:(S.put (bw (H.op rg j).take s) oj.dst vj).lam=s.lam:=by rw[hput.1,lj.1]
  have epu:(S.put (bw (H.op rg j).take s) oj.dst vj).pushed=s.pushed:=by rw[hput.2,lj.2]
  have c5:=nC (h:=H.op rg i) (P:=P) (ρ:=ρ) (μ:=cq μ lev ix .dead) hop hcl (hag (X:=S.put (bw (H.op rg j).take s) oj.dst vj) (Y:=s) rfl rfl rfl) elam.symm epu.symm;have c6:=nC (h:=H.op rg i) (P:=P) (ρ:=ρ) (μ:=cq μ lev ix .dead) hop hcl (Ag.self (s:=S.put (bw (H.op rg j).take s) oj.dst vj)) rfl rfl;rw[c1]at c5 c6;simp only[cF]at c5 c6;simp only[bJ,dp,kK,j6]at c6;have hfs:s'.fr=(bw (H.op rg i).take (S.put (bw (H.op rg j).take s) oj.dst vj)).fr:=by rw[c6]
  refine⟨S.put {s' with fr:=(bw (H.op rg i).take s).fr} oi.dst v,cq μ' lev ix (b7 μ lev ix),?_,?_⟩
  ·rw[stI];unfold gI;rw[hx];dsimp only;rw[r1,cF];dsimp only;rw[bB,lK.2 lv1,bY,c5];simp only[cF,iY,bB,c3.1,c3.2,pk,bY]
  ·have hft2:=hfrt2 (C:={s' with fr:=(bw (H.op rg i).take s).fr}) rfl;have hput3:=jd {s' with fr:=(bw (H.op rg i).take s).fr} oi.dst v;rw[stJ,stL,hft2,hx];simp only[strip,jA,hou,hcell];rw[r1,cF];dsimp only;rw[D4 c3.1,k1,cF,key,cF,jP];simp only[bJ,dp,j6];have l3:=ci (H.op rg j).take (S.put {s' with fr:=(bw (H.op rg i).take s).fr} oi.dst v);have hputD:=jd (bw (H.op rg j).take (S.put {s' with fr:=(bw (H.op rg i).take s).fr} oi.dst v)) oj.dst vj;have hputB:=jd s' oi.dst v;refine Dg ?_ ?_ ?_
   ·refine OL (s:=s) rfl rfl rfl rfl d2 (A:=bw (H.op rg j).take s) (C:={s' with fr:=(bw (H.op rg i).take s).fr}) rfl ?_ rfl rfl;rw[hfs]
   ·rw[hputD.1,hputB.1,l3.1,hput3.1]
   ·rw[hputD.2,hputB.2,l3.2,hput3.2]
 |osl _=>rw[hx]at g1;simp only[strip]at g1;cases hou:(H.op rg j).outer<;>rw[hou]at g1<;>cases g1|ost _=>rw[hx]at g1;simp only[strip]at g1;cases g1|stl _=>rw[hx]at g1;simp only[strip]at g1;cases g1|lsl _ _ _=>rw[hx]at g1;simp only[strip]at g1;cases g1|lclo _ _=>rw[hx]at g1;simp only[strip]at g1;cases g1|mloc _=>rw[hx]at g1;simp only[strip]at g1;cases g1|tloc _ _ _=>rw[hx]at g1;simp only[strip]at g1;cases g1|ltup _=>rw[hx]at g1;simp only[strip]at g1;cases g1
def lB (P:Program)(ρ:Rho)(h:OpHint)(o:Oper)(s:S)(μ:Mu):Option ((LV×S×Mu) ⊕(CV×S×Mu)):=dY P ρ h o s μ (λv s μ=>some (Sum.inl (v,s,μ))) λv s μ=>some (Sum.inr (v,s,μ))
def jZ (P:Program)(ρ:Rho)(h:OpHint)(o:Oper)(s:S)(μ:Mu):Option ((LV×S×Mu) ⊕(CV×S×Mu)):=o6 P ρ h o s μ (λv s μ=>some (Sum.inl (v,s,μ))) λv s μ=>some (Sum.inr (v,s,μ))
def kw {β:Type}(f:LV->S->Mu->Option β)(p:CV->S->Mu->Option β):(LV×S×Mu) ⊕(CV×S×Mu)->Option β
 | .inl q=>f q.1 q.2.1 q.2.2| .inr q=>p q.1 q.2.1 q.2.2
def UD {β:Type}{h:OpHint}{o:Oper}{s:S}{μ:Mu}{f:LV->S->Mu->Option β}{p:CV->S->Mu->Option β}:dY P ρ h o s μ f p=opt (lB P ρ h o s μ) (kw f p):=by unfold lB;rw[CK];rfl
def UE {β:Type}{h:OpHint}{o:Oper}{s:S}{μ:Mu}{f:LV->S->Mu->Option β}{p:CV->S->Mu->Option β}:o6 P ρ h o s μ f p=opt (jZ P ρ h o s μ) (kw f p):=by
 unfold jZ o6;cases h.hide with|none=>exact UD|some t=>simp only[GX,CK,GY];rfl
def Yj {β:Type}{h:OpHint}(hf:ic h=true){o:Oper}{s:S}{μ:Mu}{f:LV->S->Mu->Option β}{p:CV->S->Mu->Option β}:opK P ρ h o s μ f p=opt (jZ P ρ h o s μ) (kw f p):=by
 unfold ic at hf;split at hf
 ·rename_i h1 h2;unfold opK;rw[h1,h2];exact UE
 ·cases hf
def ZQ {h:OpHint}{o:Oper}{s:S}{μ:Mu}:lq P ρ h o s μ=opt (jZ P ρ h o s μ) (kw (λv s μ=>some (v,s,μ)) λ_ _ _=>none):=by have:=Hb (P:=P) (ρ:=ρ) (h:=h) (o:=o) (s:=s) (μ:=μ) (f:=λv s μ=>some (v,s,μ));rw[UE]at this;rw[this];cases lq P ρ h o s μ<;>rfl
def G9 {β:Type}{h:OpHint}{o:Oper}(hm:lf o=false){s:S}{μ:Mu}{f:LV->S->Mu->Option β}{p p':CV->S->Mu->Option β}:dY P ρ h o s μ f p=dY P ρ h o s μ f p':=by
 unfold lf at hm;unfold dY;split at hm
 ·rename_i c ho;split at hm
  ·cases hm
  ·rename_i hc;rw[ho];grind
 ·cases hm
 grind
def KK {β:Type}{h:OpHint}{o:Oper}(hm:lf o=false){s:S}{μ:Mu}{f:LV->S->Mu->Option β}{p p':CV->S->Mu->Option β}:opK P ρ h o s μ f p=opK P ρ h o s μ f p':=by
 unfold opK o6;cases h.hide with|none=>simp only[G9 hm (p:=p) (p':=p')]|some t=>simp only[G9 hm (p:=p) (p':=p')]
def refr (F:Fr):(LV×S×Mu) ⊕(CV×S×Mu)->(LV×S×Mu) ⊕(CV×S×Mu)
 | .inl q=>Sum.inl (q.1,{q.2.1 with fr:=F},q.2.2)| .inr q=>Sum.inr (q.1,{q.2.1 with fr:=F},q.2.2)
def vq {h:OpHint}{o:Oper}{c:Call}{fx:Operand}{s t:S}{μ:Mu}(ho:o.op= .call c)(hc0:c.callee= .value fx)(ha:Ag h o s t)(hl:t.lam=s.lam)(hpu:t.pushed=s.pushed):
 lB P ρ h o t μ=opt (lB P ρ h o s μ) λq=>some (refr (bw h.take t).fr q):=by
 have e1:=ha fx (by simp[ho,Op.operands,Call.operands,hc0]);have em:c.args.toList.map (evA h t.fr)=c.args.toList.map (evA h s.fr):=vS λx hx=>ha x (by simp[ho,Op.operands,Call.operands,hc0];right;simpa using hx);have l1:=ci h.take s;have l2:=ci h.take t;have est:bw h.take t={bw h.take s with fr:=(bw h.take t).fr}:=Dg rfl (by rw[l2.1,l1.1,hl]) (by rw[l2.2,l1.2,hpu]);have key: ∀(f:FuncId) (args:List LV),(gG P ρ h o.type f args (bw h.take t) μ (λv s μ=>some (Sum.inl (v,s,μ))) λv s μ=>some (Sum.inr (v,s,μ)))=
  opt (gG P ρ h o.type f args (bw h.take s) μ (λv s μ=>some (Sum.inl (v,s,μ))) λv s μ=>some (Sum.inr (v,s,μ))) λq=>some (refr (bw h.take t).fr q):=by
  intro f args
  conv=>lhs;rw[est]
  rw[GF,rH];rfl
 simp only[lB,dY,ho,hc0,e1,em,cU];congr 1;generalize evA h s.fr fx=q;cases q with
 |cv cc=>
  cases cc with|clo f caps=>exact key _ _|_=>rfl
 |lclo f caps=>exact key _ _|_=>rfl
def De (a b:CV×S×Mu):Prop:=b.1=a.1/\b.2.1.lam=a.2.1.lam/\b.2.1.pushed=a.2.1.pushed/\b.2.2=a.2.2
def xv {h:OpHint}{o:Oper}{t:Nat}(hh:h.hide=some t){s:S}{μ:Mu}{q:CV×S×Mu}:jZ P ρ h o s μ=some (Sum.inr q)↔gI t s μ (λ_ _ s μ=>opt (lB P ρ h o s μ) (kw (λ_ _ _=>none) λv s μ=>some (v,s,μ)))=some q:=by
 have hs: ∀pl ob (s:S) (μ:Mu) (v:LV),(iY pl ob s μ λs μ=>(some (Sum.inl (v,s,μ)):Option ((LV×S×Mu) ⊕(CV×S×Mu))))≠some (Sum.inr q):=by
  intro pl ob s μ v h;unfold iY at h;split at h
  ·obtain⟨_,h⟩:=bM.1 h;cases h
  ·obtain⟨_,h⟩:=bM.1 h;cases h
 have hb: ∀pl ob (s:S) (μ:Mu),opt (lB P ρ h o s μ) (kw (λv s μ=>iY pl ob s μ λs μ=>some (Sum.inl (v,s,μ))) λv s μ=>some (Sum.inr (v,s,μ)))=some (Sum.inr q)↔opt (lB P ρ h o s μ) (kw (λ_ _ _=>none) λv s μ=>some (v,s,μ))=some q:=by
  intro pl ob s μ;cases lB P ρ h o s μ with
  |none=>exact⟨λh=>(by cases h),λh=>(by cases h)⟩|some e=>
   cases e with|inl x=>exact⟨λh=>absurd h (hs _ _ _ _ _),λh=>(by cases h)⟩|inr x=>exact⟨λh=>(by injection h with h;injection h with h;exact m6 some h),λh=>(by injection h with h;rw[<-h];rfl)⟩
 unfold jZ o6;rw[hh];dsimp only;simp only[UD];unfold gI;cases s.fr t with
 |loc i off=>
  dsimp only;cases s.pushed with|true=>simp only[bM,hb]|false=>exact⟨λh=>(by cases h),λh=>(by cases h)⟩
 |cv c=>simp only[bz,bM,hb]|_=>exact⟨λh=>(by cases h),λh=>(by cases h)⟩
def RE {i j:Nat}{s s1:S}{μ μ1:Mu}{oj oi:Oper}{q:CV×S×Mu}(hj:ops[j]? =some oj)(d1:nb (re oj) (oi.looksAt ops)=true)(d2:nb (eo (H.op rg j) oj) (eo (H.op rg i) oi)=true)
 (hm:oP (H.op rg j) oj (H.op rg i) oi=true) (h1:fI P ρ H rg ops j s μ=some (s1,μ1)) (h2:jZ P ρ (H.op rg i) oi s1 μ1=some (Sum.inr q)):
 ∃q',jZ P ρ (H.op rg i) oi s μ=some (Sum.inr q')/\De q q':=by
 obtain⟨t,c,fx,hh,hg,hop,hcl,htk,htj,hti⟩:=Bt hm;obtain⟨hgj,⟨ty,hopj⟩,hcell,hhj⟩:=z7 htk;have stJ: ∀s μ,fI P ρ H rg ops j s μ=opt (cP P ρ (H.op rg j) oj s μ) λq=>some (q.2.1.put oj.dst q.1,q.2.2):=λs μ=>by simp only[fI,hj,hgj,lq,hhj]
 have ntj:=gk htj (T:=(H.op rg j).take) (.inl rfl);have stL: ∀s μ,cP P ρ (H.op rg j) oj s μ=jA P (H.op rg j) ty (strip (s.fr t)) (bw (H.op rg j).take s) μ λv s μ=>some (v,s,μ):=λs μ=>by
  have:iV (H.op rg j).take t=false:=by
   cases hm:iV (H.op rg j).take t with|false=>rfl|true=>exact absurd (fR.1 hm) ntj.2
  simp only[cP,dY,hopj,evA,this]
 rw[stJ]at h1;obtain⟨⟨vj,sj,μj⟩,g1,e1⟩:=bz.1 h1;simp only[bJ,dp]at e1;obtain⟨rfl,rfl⟩:=e1;rw[stL]at g1;have h2:=(xv hh).1 h2;have lj:=ci (H.op rg j).take s;have hput:=jd sj oj.dst vj;have hag: ∀{X Y:S},sj.fr=(bw (H.op rg j).take s).fr->X.fr=(sj.put oj.dst vj).fr->Y.fr=s.fr->Ag (H.op rg i) oi X Y:=by
  intro X Y hfr hX hY;refine AgR.ag (ops:=ops) λu hu=> ?_;rw[hX,hY];have hnd:oj.dst≠some u:=λh=>hZ d1 u (by simp[re,h]) hu;rw[gO hfr u];by_cases hw:u∈eo (H.op rg j) oj
  ·right;refine⟨?_,(qO hnd).symm⟩;cases hm:iV (H.op rg i).take u with|false=>rfl|true=>exact absurd (lM.2 (.inr (fR.1 hm))) (hZ d2 u hw)
  ·obtain⟨n1,n2⟩:=gk hw (.inl rfl);exact .inl (fg n1 n2).symm
 have hfrt:sj.fr=(bw (H.op rg j).take s).fr->(sj.put oj.dst vj).fr t=s.fr t:=λhfr=>by rw[gO hfr t,fg ntj.1 ntj.2]
 have fin: ∀{X Y:S} {μ:Mu},Ag (H.op rg i) oi X Y->Y.lam=X.lam->Y.pushed=X.pushed->opt (lB P ρ (H.op rg i) oi X μ) (kw (λ_ _ _=>none) λv s μ=>some (v,s,μ))=some q->
  ∃q',opt (lB P ρ (H.op rg i) oi Y μ) (kw (λ_ _ _=>none) λv s μ=>some (v,s,μ))=some q'/\De q q':=by
  intro X Y μ ha hl hp h;rw[vq hop hcl ha hl hp];obtain⟨e,h3,h4⟩:=bz.1 h;rw[h3];cases e with|inl x=>cases h4|inr x=>simp only[kw,bJ]at h4;subst h4;exact⟨_,rfl,rfl,rfl,rfl,rfl⟩
 unfold jA at g1;rw[hcell]at g1;cases hx:s.fr t with
 |loc ix off=>
  rw[hx]at g1;simp only[strip]at g1;cases hou:(H.op rg j).outer with
  |true=>rw[hou]at g1;cases g1|false=>
  rw[hou]at g1;dsimp only at g1;obtain⟨p,k1,k2⟩:=bz.1 g1;simp only[bJ,dp]at k2;obtain⟨rfl,esj,rfl⟩:=k2;rw[lj.1]at k1 esj;have hsfr:sj.fr=(bw (H.op rg j).take s).fr:=by rw[<-esj]
  have hslam:sj.lam=s.lam.set ix p.2:=by rw[<-esj]
  have hspu:sj.pushed=s.pushed:=by rw[<-esj];exact lj.2
  obtain⟨lv1,_⟩:=qf k1;have hft:=hfrt hsfr;rw[hx]at hft;have elam:(sj.put oj.dst p.1).lam=s.lam.set ix p.2:=by rw[hput.1,hslam]
  have epu:(sj.put oj.dst p.1).pushed=s.pushed:=by rw[hput.2,hspu]
  unfold gI at h2;rw[hft]at h2;dsimp only at h2;have hps:s.pushed=true:=by
   cases hp:s.pushed with|true=>rfl|false=>rw[epu,hp]at h2;cases h2
  have epu2:(sj.put oj.dst p.1).pushed=true:=by rw[epu,hps]
  rw[epu2]at h2;dsimp only at h2;obtain⟨_,h2⟩:=bM.1 h2;obtain⟨q',c5,lk⟩:=fin (X:={fr:=(sj.put oj.dst p.1).fr,lam:=(sj.put oj.dst p.1).lam.set ix .dead,pushed:=true}) (Y:={s with lam:=s.lam.set ix .dead}) (hag hsfr rfl rfl) (by simp only[elam,Bc]) (by simp only[hps]) h2;refine⟨q',(xv hh).2 ?_,lk⟩;unfold gI;rw[hx,hps];dsimp only;rw[bB,lK.2 lv1,bY,<-c5];congr 2;exact Dg rfl rfl hps.symm
 |cv cc=>
  rw[hx]at g1;simp only[strip]at g1;cases hou:(H.op rg j).outer with
  |false=>rw[hou]at g1;dsimp only at g1;obtain⟨cs,v1,g1⟩:=bz.1 g1;obtain⟨c',v2,v3⟩:=bz.1 g1;simp only[bJ,dp]at v3;obtain⟨rfl,rfl,rfl⟩:=v3;have hft:=hfrt rfl;rw[hx]at hft;unfold gI at h2;rw[hft]at h2;dsimp only at h2;obtain⟨q,r1,_⟩:=bz.1 h2;cases cc<;>simp[f8,oO]at v1 r1
  |true=>
  rw[hou]at g1;dsimp only at g1;obtain⟨⟨lev,ix,off⟩,r1,g1⟩:=bz.1 g1;obtain⟨p,k1,k2⟩:=bz.1 g1;have key: ∀(X:S) (M:Mu),(eP P true ty p.1 λv=>some (v,X,M))=some (vj,X,M):=by
   intro X M;have:(eP P true ty p.1 λv=>some (v,X,M))=opt (eP P true ty p.1 λv=>some (v,bw (H.op rg j).take s,cq μ lev ix p.2)) λq=>some (q.1,X,M):=by rw[jQ];rfl
   rw[this,k2];rfl
  have k3:=key (bw (H.op rg j).take s) (cq μ lev ix p.2);rw[k3]at k2;simp only[bJ,dp,kK]at k2;obtain⟨rfl,rfl⟩:=k2;obtain⟨lv1,_⟩:=qf k1;have hin:=OO lv1;have hft:=hfrt rfl;rw[hx]at hft;unfold gI at h2;rw[hft]at h2;dsimp only at h2;rw[r1,cF]at h2;dsimp only at h2;obtain⟨_,h2⟩:=bM.1 h2;rw[jP]at h2;obtain⟨q',c5,lk⟩:=fin (Y:=s) (hag rfl rfl rfl) (by rw[hput.1,lj.1]) (by rw[hput.2,lj.2]) h2;refine⟨q',(xv hh).2 ?_,lk⟩;unfold gI;rw[hx];dsimp only;rw[r1,cF];dsimp only;rw[bB,lK.2 lv1,bY,c5]
 |osl _=>rw[hx]at g1;simp only[strip]at g1;cases hou:(H.op rg j).outer<;>rw[hou]at g1<;>cases g1|ost _=>rw[hx]at g1;simp only[strip]at g1;cases g1|stl _=>rw[hx]at g1;simp only[strip]at g1;cases g1|lsl _ _ _=>rw[hx]at g1;simp only[strip]at g1;cases g1|lclo _ _=>rw[hx]at g1;simp only[strip]at g1;cases g1|mloc _=>rw[hx]at g1;simp only[strip]at g1;cases g1|tloc _ _ _=>rw[hx]at g1;simp only[strip]at g1;cases g1|ltup _=>rw[hx]at g1;simp only[strip]at g1;cases g1
def Jr {o:Oper}(h:pK o=true): ∃c fx,o.op= .call c/\c.callee= .value fx:=by unfold pK at h;grind
def RF {i j:Nat}{s s1:S}{μ μ1:Mu}{oj oi:Oper}{q:CV×S×Mu}(hj:ops[j]? =some oj)(d1:nb (re oj) (oi.looksAt ops)=true)(d2:nb (eo (H.op rg j) oj) (eo (H.op rg i) oi)=true)
 (hm:gp (fm (H.op rg j) oj) (fm (H.op rg i) oi)=true) (hq:vk (fm (H.op rg j) oj)=true) (hv:pK oi=true) (h1:fI P ρ H rg ops j s μ=some (s1,μ1)) (h2:jZ P ρ (H.op rg i) oi s1 μ1=some (.inr q)):
 ∃q',jZ P ρ (H.op rg i) oi s μ=some (.inr q')/\De q q':=by
 obtain⟨c,fx,hop,hcl⟩:=Jr hv;have hkj:fm (H.op rg j) oj≠ .all:=λe=>by rw[e]at hq;cases hq
 have hhi:(H.op rg i).hide=none:=by
  cases hh:(H.op rg i).hide with
  |none=>rfl|some t=>
   exfalso;have e:fm (H.op rg i) oi= .all:=by unfold fm;rw[hh]
   rw[e]at hm;revert hm;cases fm (H.op rg j) oj<;>simp[gp]
 rw[pg hj]at h1;obtain⟨⟨vj,sj,μj⟩,g1,e1⟩:=bz.1 h1;simp only[bJ,dp]at e1;obtain⟨rfl,rfl⟩:=e1;obtain⟨Tj,kj,hTj,hkj',Ej⟩:=Cu (t:=s) (ν:=μ) (λ_ _=> .inl rfl) hkj g1;obtain⟨Lj,frj⟩:=(Ej s μ (λ_ _=> .inl rfl) (by cases fm (H.op rg j) oj<;>simp[gl,SameOb.refl])).left;have hsame:sj.pushed=s.pushed/\sj.lam=s.lam/\μj=μ:=by
  unfold rc at Lj;have:kj= .plain\/kj= .rd:=by
   rcases hkj' with e|e
   ·rw[e];revert hq;cases fm (H.op rg j) oj<;>simp[vk]
   simp_all
  grind
 obtain⟨p1,p2,rfl⟩:=hsame;have hput:=jd sj oj.dst vj;have hag1:AgR (H.op rg i) ops oi (sj.put oj.dst vj) s:=by
  intro u hu;have hnd:oj.dst≠some u:=λh=>hZ d1 u (by simp[re,h]) hu;rw[gO frj u];by_cases hw:u∈eo (H.op rg j) oj
  ·right;refine⟨?_,(qO hnd).symm⟩;cases hm:iV (H.op rg i).take u with|false=>rfl|true=>exact absurd (lM.2 (.inr (fR.1 hm))) (hZ d2 u hw)
  ·obtain⟨n1,n2⟩:=gk hw hTj;exact .inl (fg n1 n2).symm
 have e0: ∀s μ,jZ P ρ (H.op rg i) oi s μ=lB P ρ (H.op rg i) oi s μ:=λs μ=>by unfold jZ o6;rw[hhi];rfl
 rw[e0]at h2 |-;rw[vq hop hcl hag1.ag (by rw[hput.1,p2]) (by rw[hput.2,p1]),h2];exact⟨_,rfl,rfl,rfl,rfl,rfl⟩
def aeK {i j:Nat}{s s1 s2:S}{μ μ1 μ2:Mu}(hind:tW H rg ops j i=true)(h1:fI P ρ H rg ops j s μ=some (s1,μ1))(h2:fI P ρ H rg ops i s1 μ1=some (s2,μ2)):
 ∃t1 ν1,fI P ρ H rg ops i s μ=some (t1,ν1)/\fI P ρ H rg ops j t1 ν1=some (s2,μ2):=by
 unfold tW at hind;split at hind<;>try(cases hind;done)
 rename_i oj oi hj hi;simp only[cM,jw]at hind;obtain⟨⟨⟨d1,d2⟩,d3⟩,hm⟩:=hind;rcases hm with hm|hm
 rotate_left
 ·exact Np hj hi d1 d2 d3 hm h1 h2
 have hkj:fm (H.op rg j) oj≠ .all:=λe=>by rw[e]at hm;simp[gp]at hm
 have hki:fm (H.op rg i) oi≠ .all:=λe=>by rw[e]at hm;revert hm;cases fm (H.op rg j) oj<;>simp[gp]
 rw[pg hj]at h1;obtain⟨⟨vj,sj,μj⟩,g1,e1⟩:=bz.1 h1;simp only[bJ,dp]at e1;obtain⟨rfl,rfl⟩:=e1;rw[pg hi]at h2;obtain⟨⟨vi,si,μi⟩,g2,e2⟩:=bz.1 h2;simp only[bJ,dp]at e2;obtain⟨rfl,rfl⟩:=e2;obtain⟨Tj,kj,hTj,hkj',Ej⟩:=Cu (t:=s) (ν:=μ) (λ_ _=> .inl rfl) hkj g1;obtain⟨Ti,ki,hTi,hki',Ei⟩:=Cu (t:=sj.put oj.dst vj) (ν:=μj) (λ_ _=> .inl rfl) hki g2;have hcond0: ∀k:Kind,gl k s s μ μ:=λk=>by cases k<;>simp[gl,SameOb.refl]
 obtain⟨Lj,frj⟩:=(Ej s μ (λ_ _=> .inl rfl) (hcond0 _)).left;have hput:=jd sj oj.dst vj;have Lj':rc kj s (sj.put oj.dst vj) μ μj:=by unfold rc at Lj |-;simp_all
 have hahead:=Lo hm hkj' hki';have hag1:AgR (H.op rg i) ops oi (sj.put oj.dst vj) s:=by
  intro u hu;have hnd:oj.dst≠some u:=λh=>hZ d1 u (by simp[re,h]) hu;rw[gO frj u];by_cases hw:u∈eo (H.op rg j) oj
  ·right;refine⟨?_,(qO hnd).symm⟩;cases hm:iV (H.op rg i).take u with|false=>rfl|true=>exact absurd (lM.2 (.inr (fR.1 hm))) (hZ d2 u hw)
  ·obtain⟨n1,n2⟩:=gk hw hTj;exact .inl (fg n1 n2).symm
 have hc1:gl (fm (H.op rg i) oi) (sj.put oj.dst vj) s μj μ:=by refine SO ?_ hki Lj';grind
 obtain⟨X,ν1,hX,frX,puX,memX,LX⟩:=(Ei s μ hag1 hc1).out;have hputX:=jd X oi.dst vi;have LX':rc ki s (X.put oi.dst vi) μ ν1:=by unfold rc at LX |-;simp_all
 have hag2:AgR (H.op rg j) ops oj s (X.put oi.dst vi):=by
  intro u hu;have hnd:oi.dst≠some u:=λh=>hZ d3 u (by simp[re,h]) hu;rw[gO frX u];by_cases hw:u∈eo (H.op rg i) oi
  ·right;refine⟨?_,qO hnd⟩;cases hm:iV (H.op rg j).take u with|false=>rfl|true=>exact absurd hw (hZ d2 u (lM.2 (.inr (fR.1 hm))))
  ·obtain⟨n1,n2⟩:=gk hw hTi;exact .inl (fg n1 n2)
 have hc2:gl (fm (H.op rg j) oj) s (X.put oi.dst vi) μ ν1:=by refine V7 (ki:=ki) ?_ hkj LX';grind
 obtain⟨Y,ν2,hY,frY,puY,memY,LY⟩:=(Ej _ _ hag2 hc2).out;refine⟨X.put oi.dst vi,ν1,by rw[pg hi,hX];rfl,?_⟩;rw[pg hj,hY];simp only[cF,bJ,dp];have hputY:=jd Y oj.dst vj;have hputi:=jd si oi.dst vi;obtain⟨Li,fri⟩:=(Ei _ μj (λ_ _=> .inl rfl) (by cases fm (H.op rg i) oi<;>simp[gl,SameOb.refl])).left;have hmem:Y.lam=si.lam/\ν2=μi/\Y.pushed=si.pushed:=by
  rw[hput.1]at memX;rw[hputX.1]at memY;have p1:si.pushed=s.pushed:=by rw[Li.1,hput.2,Lj.1]
  have p2:Y.pushed=s.pushed:=by rw[puY,hputX.2,puX]
  obtain⟨m1,m2⟩:=Wy hahead memX memY;simp_all
 refine⟨?_,hmem.2.1⟩;have hfr: ∀u,(Y.put oj.dst vj).fr u=(si.put oi.dst vi).fr u:=by
  intro u;rw[gO frY u,gO frX u,gO fri u,gO frj u];by_cases hu:u∈eo (H.op rg j) oj
  ·have hnw:=hZ d2 u hu;obtain⟨n1,n2⟩:=gk hnw hTi;rw[fg n1 n2,fg n1 n2]
  ·obtain⟨n1,n2⟩:=gk hu hTj;rw[fg n1 n2,fg n1 n2]
 have e1:(Y.put oj.dst vj).fr=(si.put oi.dst vi).fr:=funext hfr;have e2:(Y.put oj.dst vj).lam=(si.put oi.dst vi).lam:=by rw[hputY.1,hputi.1];exact hmem.1
 have e3:(Y.put oj.dst vj).pushed=(si.put oi.dst vi).pushed:=by rw[hputY.2,hputi.2];exact hmem.2.2
 revert e1 e2 e3;generalize Y.put oj.dst vj=A;generalize si.put oi.dst vi=B;intro e1 e2 e3;cases A;cases B;simp only at e1 e2 e3;rw[e1,e2,e3]
end
section
variable {P:Program}{ρ:Rho}{H:Hints}{rg:Nat}{ops:Array Oper}{α:Type}
def jF (P:Program)(ρ:Rho)(H:Hints)(rg:Nat)(ops:Array Oper):List Nat->S->Mu->Option (S×Mu)
 |[],s,μ=>some (s,μ)|i::r,s,μ=>opt (fI P ρ H rg ops i s μ) λq=>jF P ρ H rg ops r q.1 q.2
def KM: ∀{l:List Nat} (hf: ∀i∈l,ic (H.op rg i)=true) {s:S} {μ:Mu} {k:S->Mu->Option α},
 gq P ρ H rg ops l s μ k (λ_ _ _=>none)=opt (jF P ρ H rg ops l s μ) λq=>k q.1 q.2
 |[],hf,s,μ,k=>by simp only[gq,jF,cF]|i::r,hf,s,μ,k=>by rw[UG (hf i bG),jF,bV];congr;funext q;exact KM λj hj=>hf j (gj _ hj)
def Qj {i:Nat}: ∀{l:List Nat} {s:S} {μ:Mu} {out:S×Mu},l.Pairwise (· < ·)->i∈l->(∀j∈l,j<i->tW H rg ops j i=true)->jF P ρ H rg ops l s μ=some out->
 ∃q,fI P ρ H rg ops i s μ=some q/\jF P ρ H rg ops (l.erase i) q.1 q.2=some out
 |[],s,μ,out,hp,hi,hx,h=>by simp at hi|j::r,s,μ,out,hp,hi,hx,h=>by
  simp only[jF]at h;obtain⟨q,h1,h2⟩:=bz.1 h;by_cases hji:j=i
  ·simp_all
  ·have hir:i∈r:=by grind
   rw[A4]at hp;obtain⟨p,k1,k2⟩:=Qj hp.2 hir (λk hk hlt=>hx k (gj _ hk) hlt) h2;obtain⟨s1,μ1⟩:=q;obtain⟨s2,μ2⟩:=p;obtain⟨t1,ν1,m1,m2⟩:=aeK (hx j bG (hp.1 i hir)) h1 k1;refine⟨(t1,ν1),m1,?_⟩;rw[List.erase_cons_tail (by simpa using hji)];simp only[jF];exact bz.2 ⟨_,m2,k2⟩
def wz {f:Nat->Bool}: ∀{n:Nat},Fg f n=true-> ∀i,i<n->f i=true
 |0,_,i,hi=>by omega|n+1,h,i,hi=>by
  simp only[Fg]at h;split at h<;>try(cases h;done)
  rename_i hn;rcases jy i n with h1|h1
  ·exact wz h i h1
  grind
def OT {i:Nat}: ∀{l:List Nat},ltB i l=true-> ∀p∈l,p<i
 |[],_,p,hp=>by simp at hp|q::r,h,p,hp=>by
  simp only[ltB]at h;split at h<;>try(cases h;done)
  rename_i hq;rcases eE.1 hp with rfl|hp
  ·simp_all
  ·exact OT h p hp
def zt {rows:List (List Nat)}: ∀{l:List Nat} {j:Nat},j∈Es rows l-> ∃p∈l,j=p\/j∈rows.getD p []
 |[],j,h=>by simp[Es]at h|p::r,j,h=>by
  simp only[Es,eE,j3]at h;rcases h with h|h|h
  ·simp_all
  ·simp_all
  ·obtain⟨q,h1,h2⟩:=zt h;grind
def gr: ∀n,(ft ops n).length=n
 |0=>rfl|n+1=>by simp[ft,gr n]
def Dm {n i:Nat}(h:i<n):(ft ops (n+1)).getD i []=(ft ops n).getD i []:=by simp only[ft,fp];rw[fN (by rw[gr];exact h)]
def xQ (ops:Array Oper)(U:Nat->Prop):Prop:= ∀i,U i-> ∀p∈lN ops i,U p
def wC {U:Nat->Prop}(hU:xQ ops U): ∀{n i j:Nat},i<n->j∈(ft ops n).getD i []->U i->U j/\True
 |0,i,j,hi,_,_=>by omega|n+1,i,j,hi,hj,hui=>by
  rcases jy i n with h1|h1
  ·rw[Dm h1]at hj;exact wC hU h1 hj hui
  ·have:i=n:=bu;subst this;simp only[ft,fp]at hj;rw[ju (by rw[gr];exact cw _),gr]at hj;simp only[sk,eu,gB]at hj;obtain⟨p,hp,h2⟩:=zt hj;have hup:=hU i hui p hp;rcases h2 with rfl|h2
   ·simp_all
   ·rcases jy p i with h3|h3
    ·exact wC hU h3 h2 hup
    ·rw[fp,fq (by rw[gr];exact h3)]at h2;simp at h2
def Dn {U:Nat->Prop}(hU:xQ ops U){n i j:Nat}(hi:i<n)(hp: ∀p∈lN ops i,U p)(hj:j∈(ft ops n).getD i []):U j:=by
 induction n with
 |zero=>omega|succ n ih=>
  rcases jy i n with h1|h1
  ·rw[Dm h1]at hj;exact ih h1 hj
  ·have:i=n:=bu;subst this;simp only[ft,fp]at hj;rw[ju (by rw[gr];exact cw _),gr]at hj;simp only[sk,eu,gB]at hj;obtain⟨p,hpp,h2⟩:=zt hj;have hup:=hp p hpp;rcases h2 with rfl|h2
   ·exact hup
   ·rcases jy p i with h3|h3
    ·exact(wC hU h3 h2 hup).1
    ·rw[fp,fq (by rw[gr];exact h3)]at h2;simp at h2
def zr {i p:Nat}{o:Oper}(ho:ops[i]? =some o):p∈lN ops i↔ ∃e∈o.after,Region.binds .any e=true/\e.on=p:=by simp only[lN,ho,nv,List.mem_filter,Array.mem_toList_iff];grind
variable {W0:World}{L:Nat}{r:α}{Q:Exit->Act->World->Prop}
def BR (hrho:gN P W0 ρ){i:Nat}(hf:ic (H.op rg i)=true){G:Gh}{w:World}{s s':S}{μ μ':Mu}{a:Act}{n:Nat}{ds:Keep}(hlt: ∀(i:Nat) (o:Oper),ops[i]? =some o-> ∀d,o.dst=some d->d<n/\ds.lets d)
 (hkn:Kn W0 w (bH G w s μ a.tmps)) (hds:ds.at a) (h:fI P ρ H rg ops i s μ=some (s',μ')) (R:Rel G L s μ a.tmps w) (hn:a.tmps.size=n) {K:Act->World->Prop}
 (hK: ∀a' w' G',Rel G' L s' μ' a'.tmps w'->Ext L (bH G w s μ a.tmps) G w G' w' (bH G' w' s' μ' a'.tmps)->a'.tmps.size=n->ds.at a'->K a' w'):wpOp P ops Q i K a w:=by
 unfold wpOp;simp only[fI]at h;cases ho:ops[i]? with
 |none=>rw[ho]at h;cases h|some o=>
  rw[ho]at h;simp only at h |-;have hlt': ∀d,o.dst=some d->d<a.tmps.size:=λd hd=>by rw[hn];exact(hlt i o ho d hd).1
  have hlt2: ∀(i:Nat) (o:Oper),ops[i]? =some o-> ∀d,o.dst=some d->d<a.tmps.size:=λi o ho d hd=>by rw[hn];exact(hlt i o ho d hd).1
  have run:(opt (lq P ρ (H.op rg i) o s μ) λq=>some (q.2.1.put o.dst q.1,q.2.2))=some (s',μ')->o.wp P a w K Q:=by
   intro h;have h2:opK P ρ (H.op rg i) o s μ (λv s μ=>some (s.put o.dst v,μ)) (λ_ _ _=>none)=some (s',μ'):=by rw[sW hf];exact h
   refine qK (L:=L) (G:=G) (r:=(s',μ')) (k:=λv s μ=>some (s.put o.dst v,μ)) (p:=λ_ _ _=>none) R hlt' ?_ ?_ hrho hkn h2
   ·intro v s1 μ1 cv w' G' he R' E';simp only[bJ,dp]at he;obtain⟨rfl,rfl⟩:=he;exact hK _ w' G' R' E' (by rw[(nN a o.dst cv).1];exact hn) (Keep.put hds λd hd=>(hlt i o ho d hd).2)
   ·intro v s1 μ1 pv w' G' he;cases he
  cases hg:o.guard with
  |none=>
   rw[hg]at h;have hw:Region.wanted o (yielded ops a.tmps)=true:=by simp[Region.wanted,hg]
   simp_all
  |some g=>
   rw[hg]at h;simp only at h;obtain⟨d,hd,h⟩:=bz.1 h;obtain⟨b,hb,h⟩:=bz.1 h;have hy:yielded ops a.tmps g.1=b:=by
    cases b with|none=>exact Ah R hd hlt2 hb|some b=>exact EP R hd hlt2 (ny hb)
   obtain⟨j,want⟩:=g;simp only at hd hy h;split at h
   ·rename_i hbw;have hw:Region.wanted o (yielded ops a.tmps)=true:=by
     have:b=some want:=by simpa using hbw
     subst this;simp[Region.wanted,hg,hy]
    simp_all
   ·rename_i hbw;have hw: ¬Region.wanted o (yielded ops a.tmps)=true:=by
     have: ¬b=some want:=by simpa using hbw
     simp[Region.wanted,hg,hy,this]
    rw[bE hw];simp only[bJ,dp]at h;obtain⟨rfl,rfl⟩:=h;obtain⟨R2,E2⟩:=R.skip o.dst hlt';exact hK _ w G R2 E2 (by rw[(nN a o.dst undef).1];exact hn) (Keep.put hds λd hd=>(hlt i o ho d hd).2)
def Av (hdr:uV H rg ops=true): ∀i,i<ops.size->(∀p∈lN ops i,p<i)/\ic (H.op rg i)=true/\ ∀j,j<i->j∈(ft ops ops.size).getD i []\/tW H rg ops j i=true:=by intro i hi;have:=wz hdr i hi;simp only[cM]at this;obtain⟨⟨h1,h2⟩,h3⟩:=this;refine⟨OT h1,h2,λj hj=> ?_⟩;have:=wz h3 j hj;simp only[jw]at this;exact this.imp fR.1 id
def Hf (hdr:uV H rg ops=true){l:List Nat}{listed:Array Bool}:listed.size=ops.size->l.Pairwise (· < ·)->(∀i,i∈l↔i<ops.size/\listed.getD i true=false)->Region.ready .any ops listed=[]->l=[]:=by
 intro hsz hp hl hr;have hok:=Av hdr;cases l with
 |nil=>rfl|cons m rest=>
  exfalso;rw[A4]at hp;obtain⟨hm1,hm2⟩:=(hl m).1 bG;have:m∈Region.ready .any ops listed:=by
   refine mem_ready.2 ⟨?_,ops[m],by simp[hm1],λe he hb=> ?_⟩
   ·omega
   ·have hpm:e.on∈lN ops m:=(zr (o:=ops[m]) (by simp[hm1])).2 ⟨e,he,hb,rfl⟩;grind
  simp_all
def SA (hrho:gN P W0 ρ)(hdr:uV H rg ops=true){T:Nat->Prop}{G0:Gh}{w0:World}{n:Nat}{ds:Keep}{k:S->Mu->Option α}(hlt: ∀(i:Nat) (o:Oper),ops[i]? =some o-> ∀d,o.dst=some d->d<n/\ds.lets d)
 (hkn:Kn W0 w0 T) (hk:Pw L G0 w0 T n ds k r Q): ∀(fuel:Nat) {l:List Nat} {listed:Array Bool} {G:Gh} {w:World} {s:S} {μ:Mu} {a:Act},
 l.length<=fuel->listed.size=ops.size->l.Pairwise (· < ·)->(∀i,i∈l↔i<ops.size/\listed.getD i true=false)->xQ ops (λi=>listed.getD i false=true)->
 (opt (jF P ρ H rg ops l s μ) λq=>k q.1 q.2)=some r->Rel G L s μ a.tmps w->Ext L T G0 w0 G w (bH G w s μ a.tmps)->a.tmps.size=n->ds.at a->
 wpAny P .any ops Q fuel listed a w:=by
 have hok:=Av hdr;have hnil: ∀{l:List Nat} {listed:Array Bool} {G:Gh} {w:World} {s:S} {μ:Mu} {a:Act},l=[]->(opt (jF P ρ H rg ops l s μ) λq=>k q.1 q.2)=some r->Rel G L s μ a.tmps w->Ext L T G0 w0 G w (bH G w s μ a.tmps)->a.tmps.size=n->ds.at a->Q .normal a w:=by intro l listed G w s μ a hl h R E hn hds;subst hl;simp only[jF,cF]at h;exact hk s μ a w G h R E hn hds
 have hready:= @Hf H rg ops hdr;intro fuel
 induction fuel with
 |zero=>
  intro l listed G w s μ a hf hsz hp hl hcl h R E hn hds;have:l=[]:=AU.1 bu;refine⟨?_,hnil (listed:=listed) this h R E hn hds⟩;cases hr:Region.ready .any ops listed with
  |nil=>rfl|cons m rest=>
   exfalso;have hm:m∈Region.ready .any ops listed:=by rw[hr];simp
   obtain⟨h1,o,ho,_⟩:=mem_ready.1 hm;have hlt:m<ops.size:=(qZ.1 ho).1;have:=(hl m).2 ⟨hlt,by simp[d7,hsz,hlt]at h1 |-; exact h1⟩;subst l;simp at this
 |succ fuel ih=>
  intro l listed G w s μ a hf hsz hp hl hcl h R E hn hds;refine⟨λhr=>hnil (listed:=listed) (hready hsz hp hl hr) h R E hn hds,λi hi=> ?_⟩;obtain⟨h1,o,ho,hall⟩:=mem_ready.1 hi;have hlti:i<ops.size:=(qZ.1 ho).1;have hun:listed.getD i true=false:=by simp[d7,hsz,hlti]at h1 |-; exact h1
  have hil:i∈l:=(hl i).2 ⟨hlti,hun⟩;have hpl: ∀p∈lN ops i,listed.getD p false=true:=by intro p hp;obtain⟨e,he,hb,rfl⟩:=(zr ho).1 hp;exact hall e he hb
  obtain⟨out,h2,h3⟩:=bz.1 h;have hind: ∀j∈l,j<i->tW H rg ops j i=true:=by
   intro j hj hji;rcases(hok i hlti).2.2 j hji with hanc|hx
   ·exfalso;have hu:=Dn hcl hlti hpl hanc;obtain⟨hj1,hj2⟩:=(hl j).1 hj;have hj3:j<listed.size:=bu;simp[d7,hj3]at hu hj2;rw[hu]at hj2;cases hj2
   ·exact hx
  obtain⟨⟨s1,μ1⟩,k1,k2⟩:=Qj hp hil hind h2;refine BR hrho (hok i hlti).2.1 hlt (hkn.ext E) hds k1 R hn λa' w' G' R' E' hn' hd'=> ?_;refine ih (l:=l.erase i) ?_ (by simp[hsz]) (hp.sublist List.erase_sublist) (λj=> ?_) ?_ (bz.2 ⟨out,k2,h3⟩) R' (E.trans E') hn' hd'
  ·rw[List.length_erase_of_mem hil];omega
  ·have hnd:l.Nodup:=hp.imp λh=>Bb h;rw[hnd.mem_erase_iff,hl];constructor
   ·rintro⟨h1,h2,h3⟩;exact⟨h2,by rw[sm true (sn h1)];exact h3⟩
   ·rintro⟨h2,h3⟩;by_cases hji:j=i
    ·subst hji;simp[d7,hsz,hlti]at h3
    ·exact⟨hji,h2,by rw[sm true (sn hji)]at h3;exact h3⟩
  ·intro j hj p hp;by_cases hji:j=i
   ·subst hji;exact Ba (hpl p hp)
   ·rw[sm false (sn hji)]at hj;exact Ba (hcl j hj p hp)
def UF {i:Nat}{rest:List Nat}(hf:ic (H.op rg i)=true){o:Oper}(ho:ops[i]? =some o)(hm:lf o=false){s:S}{μ:Mu}{k:S->Mu->Option α}{p:CV->S->Mu->Option α}:
 gq P ρ H rg ops (i::rest) s μ k p=opt (fI P ρ H rg ops i s μ) λq=>gq P ρ H rg ops rest q.1 q.2 k p:=by
 simp only[gq,fI,ho];cases o.guard with
 |none=>dsimp only;rw[KK hm (p':=λ_ _ _=>none),sW hf,bV];rfl|some g=>
  dsimp only;simp only[bV];congr;funext d;cases hq:gH (s.fr d)with
  |none=>rfl|some q=>
   cases q with
   |none=>rfl|some b=>simp only[cF];have hb:=ny hq;have hd:=iT hb;obtain⟨j,want⟩:=g;cases b<;>cases want<;>simp only[bY,bW,S.set_self s d _ hd,KK hm (p:=p) (p':=λ_ _ _=>none),sW hf,bV,cF,beq_self_eq_true]<;>rfl
def zI {c:Nat}{oc:Oper}(hc:ops[c]? =some oc)(hg:oc.guard=none){k:S->Mu->Option α}{p:CV->S->Mu->Option α}: ∀{l:List Nat} (hf: ∀i∈l,ic (H.op rg i)=true/\(i≠c-> ∀o,ops[i]? =some o->lf o=false)) {s:S} {μ:Mu},
 l.Pairwise (· < ·)->gq P ρ H rg ops l s μ k p=some r->(opt (jF P ρ H rg ops l s μ) λq=>k q.1 q.2)=some r\/
  ∃l1 l2 s1 μ1 q,l=l1++c::l2/\jF P ρ H rg ops l1 s μ=some (s1,μ1)/\jZ P ρ (H.op rg c) oc s1 μ1=some (.inr q)/\p q.1 q.2.1 q.2.2=some r
 |[],hf,s,μ,hp,h=>by simp only[gq]at h;left;simpa only[jF,cF]using h|i::l,hf,s,μ,hp,h=>by
  rw[A4]at hp;obtain⟨f1,f2⟩:=hf i bG;have hf': ∀j∈l,ic (H.op rg j)=true/\(j≠c-> ∀o,ops[j]? =some o->lf o=false):=λj hj=>hf j (gj _ hj);by_cases hic:i=c
  ·subst hic;simp only[gq,hc,hg]at h;rw[Yj f1]at h;obtain⟨e,h1,h2⟩:=bz.1 h;cases e with
   |inl q=>
    simp only[kw]at h2;rcases zI hc hg hf' hp.2 h2 with h3|⟨l1,l2,s1,μ1,q1,h3,_⟩
    ·left;simp only[jF,fI,hc,hg];rw[ZQ,h1];simpa only[kw,cF]using h3
    ·exfalso;have:i∈l:=by rw[h3];simp
     have:=hp.1 i this;omega
   |inr q=>exact .inr ⟨[],l,s,μ,q,rfl,rfl,h1,h2⟩
  ·cases ho:ops[i]? with
   |none=>simp only[gq,ho]at h;cases h|some o=>
    rw[UF f1 ho (f2 hic o ho)]at h;obtain⟨q,h1,h2⟩:=bz.1 h;rcases zI hc hg hf' hp.2 h2 with h3|⟨l1,l2,s1,μ1,q1,h3,h4,h5,h6⟩
    ·left;simp only[jF];rw[h1];exact h3
    ·refine .inr ⟨i::l1,l2,s1,μ1,q1,by rw[h3];rfl,?_,h5,h6⟩;simp only[jF];rw[h1];exact h4
def BM {c:Nat}{oc:Oper}(hc:ops[c]? =some oc)(hv:pK oc=true): ∀{l1:List Nat} {s s1:S} {μ μ1:Mu} {q:CV×S×Mu},(∀j∈l1,∃oj,ops[j]? =some oj/\nb (re oj) (oc.looksAt ops)=true/\nb (eo (H.op rg j) oj) (eo (H.op rg c) oc)=true/\(gp (fm (H.op rg j) oj) (fm (H.op rg c) oc)=true/\vk (fm (H.op rg j) oj)=true\/oP (H.op rg j) oj (H.op rg c) oc=true))->
 jF P ρ H rg ops l1 s μ=some (s1,μ1)->jZ P ρ (H.op rg c) oc s1 μ1=some (.inr q)-> ∃q',jZ P ρ (H.op rg c) oc s μ=some (.inr q')/\De q q'
 |[],s,s1,μ,μ1,q,hl,h1,h2=>by simp only[jF,bJ,dp]at h1;obtain⟨rfl,rfl⟩:=h1;exact⟨q,h2,rfl,rfl,rfl,rfl⟩
 |j::l,s,s1,μ,μ1,q,hl,h1,h2=>by
  simp only[jF]at h1;obtain⟨⟨sa,μa⟩,h3,h4⟩:=bz.1 h1;obtain⟨qa,h5,a1,a2,a3,a4⟩:=BM hc hv (λj hj=>hl j (gj _ hj)) h4 h2;obtain⟨oj,k1,k2,k3,k4⟩:=hl j bG;obtain⟨qb,h6,b1,b2,b3,b4⟩: ∃q',jZ P ρ (H.op rg c) oc s μ=some (.inr q')/\De qa q':=by
   rcases k4 with⟨m1,m2⟩|k4
   ·exact RF k1 k2 k3 m1 m2 hv h3 h5
   ·exact RE k1 k2 k3 k4 h3 h5
  exact⟨qb,h6,b1.trans a1,b2.trans a2,b3.trans a3,b4.trans a4⟩
def EA: ∀{n:Nat},AM H rg ops n=true-> ∃c,Ez H rg ops c=true
 |0,h=>by cases h|n+1,h=>by
  simp only[AM]at h;split at h
  ·grind
  ·exact EA h
def Nm {c:Nat}(h:Ez H rg ops c=true): ∃oc,ops[c]? =some oc/\oc.guard=none/\pK oc=true/\ ∀j o,ops[j]? =some o->j≠c->lf o=false/\
 (j<c->j∈(ft ops ops.size).getD c []\/vk (fm (H.op rg j) o)=true\/oP (H.op rg j) o (H.op rg c) oc=true)/\(c<j->c∈(ft ops ops.size).getD j []):=by
 unfold Ez at h;split at h<;>try(cases h;done)
 rename_i y hy;split at h<;>try(cases h;done)
 rename_i hg;rw[cM]at h;refine⟨y,hy,hg,h.1,λj o ho hne=> ?_⟩;have:=wz h.2 j (qZ.1 ho).1;rw[ho]at this;simp only[jw,cM,jv]at this;rcases this with h1|⟨h1,h2⟩
 ·simp_all
 ·refine⟨h1,λhlt=> ?_,λhlt=> ?_⟩
  ·rw[show Nat.blt j c=true by simpa[ot]using hlt]at h2;simp only[jw]at h2;exact h2.imp fR.1 id
  ·rw[show Nat.blt j c=false by rw[Bool.eq_false_iff];intro hb;rw[ot]at hb;omega]at h2;exact fR.1 h2
def Sz (hrho:gN P W0 ρ)(hdr:uV H rg ops=true){c:Nat}{oc:Oper}(hc:ops[c]? =some oc)(hg:oc.guard=none)(hv:pK oc=true)
 (hsole: ∀j o,ops[j]? =some o->j≠c->lf o=false/\(j<c->j∈(ft ops ops.size).getD c []\/vk (fm (H.op rg j) o)=true\/oP (H.op rg j) o (H.op rg c) oc=true)/\(c<j->c∈(ft ops ops.size).getD j []))
 {T:Nat->Prop} {G0:Gh} {w0:World} {n:Nat} {ds:Keep} {p:CV->S->Mu->Option α} (hlt: ∀(i:Nat) (o:Oper),ops[i]? =some o-> ∀d,o.dst=some d->d<n/\ds.lets d)
 (hkn:Kn W0 w0 T) (hpk:Fe L G0 w0 T n ds p r Q) (hpf: ∀v s s' μ,s'.lam=s.lam->s'.pushed=s.pushed->p v s' μ=p v s μ): ∀(fuel:Nat) {l1 l2:List Nat} {listed:Array Bool} {G:Gh} {w:World} {s s1:S} {μ μ1:Mu} {a:Act} {q:CV×S×Mu},
 (l1++c::l2).length<=fuel->listed.size=ops.size->(l1++c::l2).Pairwise (· < ·)->(∀i,i∈l1++c::l2↔i<ops.size/\listed.getD i true=false)->xQ ops (λi=>listed.getD i false=true)->
 jF P ρ H rg ops l1 s μ=some (s1,μ1)->jZ P ρ (H.op rg c) oc s1 μ1=some (.inr q)->p q.1 q.2.1 q.2.2=some r->Rel G L s μ a.tmps w->Ext L T G0 w0 G w (bH G w s μ a.tmps)->a.tmps.size=n->ds.at a->
 wpAny P .any ops Q fuel listed a w:=by
 have hok:=Av hdr;intro fuel
 induction fuel with
 |zero=>intro l1 l2 listed G w s s1 μ μ1 a q hf;simp at hf|succ fuel ih=>
  intro l1 l2 listed G w s s1 μ μ1 a q hf hsz hp hl hcl h2 h3 h4 R E hn hds;refine⟨λhr=>absurd (Hf hdr hsz hp hl hr) bG,λi hi=> ?_⟩;obtain⟨h1,o,ho,hall⟩:=mem_ready.1 hi;have hlti:i<ops.size:=(qZ.1 ho).1;have hun:listed.getD i true=false:=by simp[d7,hsz,hlti]at h1 |-; exact h1
  have hil:i∈l1++c::l2:=(hl i).2 ⟨hlti,hun⟩;have hpl: ∀p∈lN ops i,listed.getD p false=true:=by intro p hp;obtain⟨e,he,hb,rfl⟩:=(zr ho).1 hp;exact hall e he hb
  have hanc: ∀j∈l1++c::l2,j ∉(ft ops ops.size).getD i []:=by intro j hj hanc;have hu:=Dn hcl hlti hpl hanc;obtain⟨hj1,hj2⟩:=(hl j).1 hj;have hj3:j<listed.size:=bu;simp[d7,hj3]at hu hj2;rw[hu]at hj2;cases hj2
  have hind: ∀j∈l1++c::l2,j<i->tW H rg ops j i=true:=λj hj hji=>((hok i hlti).2.2 j hji).resolve_left (hanc j hj);have hcm:c∈l1++c::l2:=bG;by_cases hic:i=c
  ·subst hic;have hlt1: ∀j∈l1,j<i:=λj hj=>(F9.1 hp).2.2 j hj i bG
   obtain ⟨q', k1, b1, b2, b3, b4⟩ := BM hc hv (λj hj => by
    have hji:=hlt1 j hj;have hjm:j∈l1++i::l2:=by simp[hj]
    have hx:=hind j hjm hji;have hj1:=((hl j).1 hjm).1;have hoj:ops[j]? =some ops[j]:=by simp[hj1]
    unfold tW at hx;rw[hoj,hc]at hx;simp only[cM,jw]at hx;refine⟨_,hoj,hx.1.1.1,hx.1.1.2,?_⟩;rcases((hsole j _ hoj bu).2.1 hji).resolve_left (hanc j hjm)with hq|hq
    ·exact hx.2.imp (λh=>⟨h,hq⟩) id
    ·exact .inr hq) h2 h3
   have hop:opK P ρ (H.op rg i) oc s μ (λ_ _ _=>none) p=some r:=by rw[Yj (hok i hlti).2.1,k1];simp only[cF,kw];rw[b1,b4,hpf _ _ _ _ b2 b3];exact h4
   unfold wpOp;rw[hc];dsimp only;rw[bK (by simp[Region.wanted,hg])];refine .inl (qK (L:=L) (G:=G) (r:=r) (k:=λ_ _ _=>none) (p:=p) R (λd hd=>by rw[hn];exact(hlt i oc hc d hd).1) ?_ ?_ hrho (hkn.ext E) hop)
   ·intro v s1 μ1 cv w' G' he;cases he
   ·intro v s1 μ1 pv w' G' he R' hv E';exact hpk v s1 μ1 pv a w' G' he R' hv (E.trans E') hn hds
  ·have hi1:i∈l1:=by
    rcases j3.1 hil with h|h
    ·exact h
    ·exfalso;rcases eE.1 h with h|h
     ·exact hic h
     ·have hci:c<i:=(A4.1 (F9.1 hp).2.1).1 i h;exact hanc c hcm ((hsole i o ho hic).2.2 hci)
   obtain⟨⟨sa,μa⟩,k1,k2⟩:=Qj (F9.1 hp).1 hi1 (λj hj hlt=>hind j (by simp[hj]) hlt) h2;have her:(l1++c::l2).erase i=l1.erase i++c::l2:=List.erase_append_left _ hi1;refine BR hrho (hok i hlti).2.1 hlt (hkn.ext E) hds k1 R hn λa' w' G' R' E' hn' hd'=> ?_;refine ih (l1:=l1.erase i) (l2:=l2) ?_ (by simp[hsz]) (by rw[<-her];exact hp.sublist List.erase_sublist) (λj=> ?_) ?_ k2 h3 h4 R' (E.trans E') hn' hd'
   ·rw[<-her,List.length_erase_of_mem hil];omega
   ·have hnd:(l1++c::l2).Nodup:=hp.imp λh=>Bb h;rw[<-her,hnd.mem_erase_iff,hl];constructor
    ·rintro⟨h1,h2,h3⟩;exact⟨h2,by rw[sm true (sn h1)];exact h3⟩
    ·rintro⟨h2,h3⟩;by_cases hji:j=i
     ·subst hji;simp[d7,hsz,hlti]at h3
     ·exact⟨hji,h2,by rw[sm true (sn hji)]at h3;exact h3⟩
   ·intro j hj p hp;by_cases hji:j=i
    ·subst hji;exact Ba (hpl p hp)
    ·rw[sm false (sn hji)]at hj;exact Ba (hcl j hj p hp)
def LC (hrho:gN P W0 ρ)(hm:P.follows .mixedOrders=true)(hdr:uV H rg ops=true){T:Nat->Prop}{G0 G:Gh}{w0 w:World}{n:Nat}{ds:Keep}{s:S}{μ:Mu}{a:Act}{k:S->Mu->Option α}{p:CV->S->Mu->Option α}{id:Nat}
 (hlt: ∀(i:Nat) (o:Oper),ops[i]? =some o-> ∀d,o.dst=some d->d<n/\ds.lets d) (hkn:Kn W0 w0 T) (hk:Pw L G0 w0 T n ds k r Q)
 (hpn:(∀v s μ,p v s μ=none)\/AM H rg ops ops.size=true/\Fe L G0 w0 T n ds p r Q/\ ∀v s s' μ,s'.lam=s.lam->s'.pushed=s.pushed->p v s' μ=p v s μ)
 (h:gq P ρ H rg ops (List.range ops.size) s μ k p=some r) (R:Rel G L s μ a.tmps w) (E:Ext L T G0 w0 G w (bH G w s μ a.tmps)) (hn:a.tmps.size=n) (hds:ds.at a):
 (Code.region id ops true).wp P Q a w:=by
 refine wp_region_any hm ?_;have hnf: ∀i∈List.range ops.size,ic (H.op rg i)=true:=λi hi=>(Av hdr i (by simpa using hi)).2.1;obtain⟨R',hO⟩:=R.drew
 have E' : Ext L T G0 w0 G w.drew (bH G w.drew s μ a.tmps) := E.trans ⟨⟨λ_ _ _ h hb => ⟨h, hb⟩, λ_ _ h => ⟨h, rfl, rfl⟩, λ_ _ _ h hc => ⟨h, hc⟩, λb cur e fz h => ⟨cur, fz, h, rfl⟩⟩, rfl, rfl, rfl, cw _, λ_ _ _ => ⟨rfl, rfl⟩, λb hb => .inl (by
  rcases hb with⟨l,hb⟩|hb
  ·exact .inl ⟨l,hO l b hb⟩
  ·exact .inr hb),λ_ _=>⟨λ_=>⟨rfl,rfl⟩,rfl⟩⟩
 have hmem: ∀i,i∈List.range ops.size↔i<ops.size/\(Array.replicate ops.size false).getD i true=false:=λi=>by simp_all
 have hcl:xQ ops (λi=>(Array.replicate ops.size false).getD i false=true):=λi hi=>by grind
 have norm:(opt (jF P ρ H rg ops (List.range ops.size) s μ) λq=>k q.1 q.2)=some r->wpAny P .any ops Q ops.size (Array.replicate ops.size false) a w.drew:=λh=>
  SA (L:=L) (w:=w.drew) hrho hdr hlt hkn hk ops.size bG bG F6 hmem hcl h R' E' hn hds
 rcases hpn with hpn|⟨hso,hpk,hpf⟩
 ·obtain rfl:p=λ_ _ _=>none:=by funext v s μ;exact hpn v s μ
  rw[KM hnf]at h;exact norm h
 ·obtain⟨c,hc⟩:=EA hso;obtain⟨oc,hc,hg,hv,hsole⟩:=Nm hc;rcases zI hc hg (λi hi=>⟨hnf i hi,λhne o ho=>(hsole i o ho hne).1⟩) F6 h with h|⟨l1,l2,s1,μ1,q,e,h1,h2,h3⟩
  ·exact norm h
  ·refine Sz (L:=L) (w:=w.drew) hrho hdr hc hg hv hsole hlt hkn hpk hpf ops.size (l1:=l1) (l2:=l2) ?_ bG ?_ ?_ hcl h1 h2 h3 R' E' hn hds
   ·grind
   ·rw[<-e];exact F6
   simp_all
end
def qk (l:Lam): ∀(n:Nat) (todo acc:List Nat),acc.Nodup->(ud l n todo acc).Nodup
 |0,_,acc,h=>by simpa[ud]using h|n+1,[],acc,h=>by simpa[ud]using h|n+1,i::todo,acc,h=>by
  simp only[ud];split
  ·exact qk l n todo acc h
  ·rename_i hm;have hni:i ∉ acc:=λhi=>by rw[fR.2 hi]at hm;cases hm
   have h2:(acc++[i]).Nodup:=by grind
   split
   ·exact qk l n _ _ h2
   ·exact qk l n _ _ h2
def oQ: ∀{m:List Nat} {n i j:Nat},tT m n i=some j->n<=j/\m[j-n]? =some i
 |[],n,i,j,h=>by simp[tT]at h|a::r,n,i,j,h=>by
  simp only[tT]at h;split at h
  ·simp_all
  ·obtain⟨h1,h2⟩:=oQ h;grind
def Gh.order (G:Gh)(L:Nat)(m:List Nat):Gh where
 O:=G.O
 β:=λl j=>if l=L then G.β L (m.getD j 0)else G.β l j
 n:=G.n
 sz:=λl j=>if l=L then G.sz L (m.getD j 0)else G.sz l j
section
variable {G:Gh}{w:World}{L:Nat}{μ:Mu}{tm:Array Value}{s:S}
def Rel.refr (R:Rel G L s μ tm w){fr':Fr}(hf: ∀t,LVR G w L s.lam.length (fr' t) (tm.getD t undef)/\ ∀b,bZ (fr' t) (tm.getD t undef) b->bZ (s.fr t) (tm.getD t undef) b):
 Rel G L {s with fr:=fr'} μ tm w/\(∀l b,bF G w fr' tm (μ++[s.lam]) l b->bF G w s.fr tm (μ++[s.lam]) l b):=by
 have hown: ∀l b,bF G w fr' tm (μ++[s.lam]) l b->bF G w s.fr tm (μ++[s.lam]) l b:=by
  intro l b h;cases l with|fr t=>exact(hf t).2 b h|ob lev i k=>exact h
 exact⟨⟨R.lev,λt=>(hf t).1,R.lam,R.mu,R.inj,λl l' b h h'=>R.own l l' b (hown l b h) (hown l' b h'),λl b lev i h h'=>R.apart l b lev i (hown l b h) h',R.nlt,R.nL,R.ngt⟩,hown⟩
def B4 (m:List Nat)(h0:G.n L=0):Le G w (G.order L m) w:=by
 refine⟨λ_ _ _ h hb=>⟨h,hb⟩,λlev i h=> ?_,λ_ _ _ h hc=>⟨h,hc⟩,λb cur e fz h=>⟨cur,fz,h,rfl⟩⟩;have hne:lev≠L:=λe=>by subst e;omega
 simp only[Gh.order,hne,dG,m5,j6];exact h
mutual
def o9 {m:List Nat}{nl:Nat}(h0:G.n L=0): ∀{x y:LV} {v:Value},iz m x=some y->LVR G w L nl x v->LVR (G.order L m) w L m.length y v/\(∀b,bZ y v b↔bZ x v b)/\(tX x=false->tX y=false)
 | .cv c,y,v,hr,h=>by simp only[iz,bJ]at hr;subst hr;refine⟨?_,λb=>ov,λ_=>by simp⟩;simp only[LVR]at h |-;exact cZ (B4 m h0) c v h| .osl xs,y,v,hr,h=>by simp only[iz,bJ]at hr;subst hr;refine⟨?_,λb=>ov,λh=>h⟩;simp only[LVR]at h |-;exact oy (B4 m h0) (λ_ _ _ _=>⟨rfl,rfl⟩) h| .ost xs,y,v,hr,h=>by simp only[iz,bJ]at hr;subst hr;refine⟨?_,λb=>ov,λh=>h⟩;simp only[LVR]at h |-;exact xX (λ_ _ _ _=>⟨rfl,rfl⟩) h| .stl n,y,v,hr,h=>by simp only[iz,bJ]at hr;subst hr;exact⟨by simpa[LVR]using h,λb=>ov,λh=>h⟩| .loc i off,y,v,hr,h=>by
  simp only[iz]at hr;obtain⟨j,hj,hr⟩:=bz.1 hr;simp only[bJ]at hr;subst hr;obtain⟨_,hm⟩:=oQ hj;simp only[vK]at hm;have hlt:j<m.length:=(dm.1 hm).1;have hgd:m.getD j 0=i:=by rw[fp,hm];rfl
  simp only[LVR]at h |-;exact⟨⟨hlt,by simp only[Gh.order,cX,hgd];exact h.2⟩,λb=>by simp[bZ],λ_=>by simp⟩
 | .lsl i off len,y,v,hr,h=>by
  simp only[iz]at hr;obtain⟨j,hj,hr⟩:=bz.1 hr;simp only[bJ]at hr;subst hr;obtain⟨_,hm⟩:=oQ hj;simp only[vK]at hm;have hlt:j<m.length:=(dm.1 hm).1;have hgd:m.getD j 0=i:=by rw[fp,hm];rfl
  simp only[LVR]at h |-;refine⟨⟨hlt,?_⟩,λb=>by simp[bZ],λ_=>by simp⟩;simp only[Gh.order,cX,hgd];exact h.2
 | .lclo f caps,y,v,hr,h=>by simp only[iz]at hr;obtain⟨l,hl,hr⟩:=bz.1 hr;simp only[bJ]at hr;subst hr;simp only[LVR]at h |-;obtain⟨vs,e,hv⟩:=h;exact⟨⟨vs,e,uy h0 hl hv⟩,λb=>by simp[bZ],λ_=>by simp⟩
 | .ltup xs,y,v,hr,h=>by simp only[iz]at hr;obtain⟨l,hl,hr⟩:=bz.1 hr;simp only[bJ]at hr;subst hr;simp only[LVR]at h |-;obtain⟨vs,e,hv⟩:=h;exact⟨⟨vs,e,uy h0 hl hv⟩,λb=>by simp[bZ],λ_=>by simp⟩
 | .mloc i,y,v,hr,h=>by
  simp only[iz]at hr;obtain⟨j,hj,hr⟩:=bz.1 hr;simp only[bJ]at hr;subst hr;obtain⟨_,hm⟩:=oQ hj;simp only[vK]at hm;have hlt:j<m.length:=(dm.1 hm).1;have hgd:m.getD j 0=i:=by rw[fp,hm];rfl
  simp only[LVR]at h |-;exact⟨⟨hlt,by simp only[Gh.order,cX,hgd];exact h.2⟩,λb=>by simp[bZ],λ_=>by simp⟩
 | .tloc i t n,y,v,hr,h=>by
  simp only[iz]at hr;obtain⟨j,hj,hr⟩:=bz.1 hr;simp only[bJ]at hr;subst hr;obtain⟨_,hm⟩:=oQ hj;simp only[vK]at hm;have hlt:j<m.length:=(dm.1 hm).1;have hgd:m.getD j 0=i:=by rw[fp,hm];rfl
  simp only[LVR]at h |-;exact⟨⟨hlt,by simp only[Gh.order,cX,hgd];exact h.2⟩,λb=>by simp[bZ],λ_=>by simp⟩
def uy {m:List Nat}{nl:Nat}(h0:G.n L=0): ∀{xs ys:List LV} {vs:List Value},ii m xs=some ys->dV G w L nl xs vs->dV (G.order L m) w L m.length ys vs
 |[],ys,vs,hr,h=>by simp only[ii,bJ]at hr;subst hr;simpa[dV]using h|x::xs,ys,vs,hr,h=>by simp only[ii]at hr;obtain⟨y,h1,hr⟩:=bz.1 hr;obtain⟨l,h2,hr⟩:=bz.1 hr;simp only[bJ]at hr;subst hr;simp only[dV]at h |-;obtain⟨v,vr,e,h3,h4,h5⟩:=h;obtain⟨k1,k2,k3⟩:=o9 h0 h1 h4;exact⟨v,vr,e,k3 h3,k1,uy h0 h2 h5⟩
end
def ux {m:List Nat}: ∀{xs ys:List LV},ii m xs=some ys->ys.length=xs.length/\ ∀(j:Nat) y,ys[j]? =some y-> ∃x,xs[j]? =some x/\iz m x=some y
 |[],ys,h=>by simp only[ii,bJ]at h;subst h;exact⟨rfl,λj y hy=>by simp at hy⟩|x::xs,ys,h=>by simp only[ii]at h;obtain⟨y,h1,h⟩:=bz.1 h;obtain⟨r,h2,h⟩:=bz.1 h;simp only[bJ]at h;subst h;obtain⟨h3,h4⟩:=ux h2;grind
inductive ObRen (m:List Nat):Ob->Ob->Prop where
 |dead:ObRen m .dead .dead|arr {sz cs}:ObRen m (.arr sz cs) (.arr sz cs)|map {ks vs}:ObRen m (.map ks vs) (.map ks vs)|cells {cs ds}:ii m cs=some ds->ObRen m (.cells cs) (.cells ds)
def lz {m:List Nat}: ∀{l l':List Ob},gQ m l=some l'->l'.length=l.length/\ ∀i,ObRen m (bQ l i) (bQ l' i)
 |[],l',h=>by simp only[gQ,bJ]at h;subst h;exact⟨rfl,λi=>by simp only[bQ,List.getElem?_nil];exact .dead⟩| .dead::l,l',h=>by
  simp only[gQ]at h;obtain⟨r,h1,h⟩:=bz.1 h;simp only[bJ]at h;subst h;obtain⟨h2,h3⟩:=lz h1;refine⟨by simp[h2],λi=> ?_⟩;cases i with|zero=>exact .dead|succ i=>exact h3 i
 | .arr sz cs::l,l',h=>by
  simp only[gQ]at h;obtain⟨r,h1,h⟩:=bz.1 h;simp only[bJ]at h;subst h;obtain⟨h2,h3⟩:=lz h1;refine⟨by simp[h2],λi=> ?_⟩;cases i with|zero=>exact .arr|succ i=>exact h3 i
 | .map ks vs::l,l',h=>by
  simp only[gQ]at h;obtain⟨r,h1,h⟩:=bz.1 h;simp only[bJ]at h;subst h;obtain⟨h2,h3⟩:=lz h1;refine⟨by simp[h2],λi=> ?_⟩;cases i with|zero=>exact .map|succ i=>exact h3 i
 | .cells cs::l,l',h=>by
  simp only[gQ]at h;obtain⟨ds,h0,h⟩:=bz.1 h;obtain⟨r,h1,h⟩:=bz.1 h;simp only[bJ]at h;subst h;obtain⟨h2,h3⟩:=lz h1;refine⟨by simp[h2],λi=> ?_⟩;cases i with|zero=>exact .cells h0|succ i=>exact h3 i
def ObRen.live {m:List Nat}{o o':Ob}(h:ObRen m o o'):b6 o'↔b6 o:=by cases h<;>exact ov
def TG {m:List Nat}{l:Lam}{j:Nat}(h:b6 (bQ (m.map (bQ l)) j)):j<m.length/\bQ (m.map (bQ l)) j=bQ l (m.getD j 0):=by
 have hj:=ld h;simp only[pj]at hj;refine⟨hj,?_⟩;have e:(m.map (bQ l))[j]? =some (bQ l (m.getD j 0)):=by simp_all
 simp only[bQ,e]
def Rel.reorder (R:Rel G L s μ tm w)(hp:s.pushed=false){m:List Nat}(hm:m.Nodup){fr':Fr}{l':Lam}(hf: ∀t,iz m (s.fr t)=some (fr' t))(hl:gQ m (m.map (bQ s.lam))=some l'):
 Rel (G.order L m) L {fr:=fr',lam:=l',pushed:=false} μ tm w/\Ext L (bH G w s μ tm) G w (G.order L m) w (bH (G.order L m) w {fr:=fr',lam:=l',pushed:=false} μ tm):=by
 have hμ:=R.lev;have h0:G.n L=0:=by have:=R.nL;rw[hp]at this;simpa using this
 have hle:Le G w (G.order L m) w:=B4 m h0;obtain⟨hll,hlg⟩:=lz hl;have hll':l'.length=m.length:=by rw[hll];simp
 have eL: ∀i,bP (μ++[s.lam]) L i=bQ s.lam i:=λi=>by rw[<-hμ];exact cV
 have eL': ∀i,bP (μ++[l']) L i=bQ l' i:=λi=>by rw[<-hμ];exact cV
 have hβ: ∀lev i,lev≠L->(G.order L m).β lev i=G.β lev i:=λlev i h=>by simp[Gh.order,h]
 have hβL: ∀j,(G.order L m).β L j=G.β L (m.getD j 0):=λj=>by simp[Gh.order]
 have hlv: ∀j,b6 (bQ l' j)->j<m.length/\b6 (bQ s.lam (m.getD j 0))/\ObRen m (bQ s.lam (m.getD j 0)) (bQ l' j):=by intro j h;have h1:=(hlg j).live.1 h;obtain⟨h2,h3⟩:=TG h1;grind
 have hlive: ∀lev i,b6 (bP (μ++[l']) lev i)->(lev<L/\bP (μ++[l']) lev i=bP (μ++[s.lam]) lev i/\(G.order L m).β lev i=G.β lev i/\b6 (bP (μ++[s.lam]) lev i))\/
  (lev=L/\i<m.length/\b6 (bP (μ++[s.lam]) L (m.getD i 0))/\(G.order L m).β lev i=G.β L (m.getD i 0)/\ObRen m (bQ s.lam (m.getD i 0)) (bQ l' i)):=by
  intro lev i h;rcases e8 (s:={fr:=fr',lam:=l',pushed:=false}) hμ h with⟨h1,h2⟩|⟨rfl,h1,h2⟩
  ·have e:bP (μ++[l']) lev i=bP (μ++[s.lam]) lev i:=by rw[bP,bP,cS bu,cS bu]
   exact .inl ⟨h1,e,hβ lev i bu,by rw[<-e];exact h⟩
  ·have h':b6 (bQ l' i):=by rw[<-eL'];exact h
   obtain⟨a1,a2,a3⟩:=hlv i h';exact .inr ⟨rfl,a1,by rw[eL];exact a2,hβL i,a3⟩
 have hown: ∀q b,bF (G.order L m) w fr' tm (μ++[l']) q b->(∃t,q= .fr t/\bF G w s.fr tm (μ++[s.lam]) q b)\/(∃lev i k,q= .ob lev i k/\lev<L/\bF G w s.fr tm (μ++[s.lam]) q b)\/
  (∃i k,q= .ob L i k/\i<m.length/\bF G w s.fr tm (μ++[s.lam]) (.ob L (m.getD i 0) k) b):=by
  intro q b h;cases q with
  |fr t=>exact .inl ⟨t,rfl,((o9 h0 (hf t) (R.fr t)).2.1 b).1 h⟩|ob lev i k=>
   have hl':=i8 h;rcases hlive lev i hl' with⟨h1,h2,h3,_⟩|⟨rfl,h1,h2,h3,h4⟩
   ·exact .inr (.inl ⟨lev,i,k,rfl,h1,ja (fr':=fr') (tm':=tm) h2 h3 rfl h⟩)
   ·refine .inr (.inr ⟨i,k,rfl,h1,?_⟩);simp only[bF,eL',h3]at h;split at h<;>try(exact h.elim)
    rename_i ds hds;split at h<;>try(exact h.elim)
    rename_i y hy;obtain⟨cur,e',fz,hb,ho⟩:=h;rw[hds]at h4;generalize hq:bQ s.lam (m.getD i 0)=q at h4;cases h4 with
    |cells hr=>obtain⟨_,hg⟩:=ux hr;obtain⟨x,hx,hxy⟩:=hg k y hy;have hob:=R.lam (m.getD i 0);rw[hq]at hob;simp only[ObR]at hob;obtain⟨cur2,e2,fz2,hb2,_,_,_,hrr⟩:=hob;rw[hb2]at hb;obtain⟨rfl,rfl,rfl⟩:=(j4 ..).mp (gY hb);simp only[bF,eL,hq,hx];exact⟨cur2,e2,fz2,hb2,((o9 h0 hxy (hrr k x hx)).2.1 b).1 ho⟩
 have hget: ∀{i j:Nat},i<m.length->j<m.length->m.getD i 0=m.getD j 0->i=j:=by intro i j hi hj e;rw[fp,fp,dA hi,dA hj]at e;exact(List.getElem_inj hm).1 (by simpa using e)
 have hsz: ∀j,(G.order L m).sz L j=G.sz L (m.getD j 0):=λj=>by simp[Gh.order]
 refine⟨⟨hμ,λt=> ?_,λi=> ?_,λlev i hlt=> ?_,λlev i lev' i' h h' e=> ?_,λq q' b h h'=> ?_,λq b lev i h h' e=> ?_,R.nlt,?_,R.ngt⟩,⟨hle,rfl,rfl,rfl,cw _,λ_ _ _=>⟨rfl,rfl⟩,λb hb=> .inl ?_,λl hlt=>⟨λi=> ?_,rfl⟩⟩⟩
 ·simp only[hll'];exact(o9 h0 (hf t) (R.fr t)).1
 ·simp only[hll',hβL,hsz];by_cases hd:b6 (bQ l' i)
  ·obtain⟨_,_,hr⟩:=hlv i hd;have hob:=R.lam (m.getD i 0);revert hob hr;generalize bQ s.lam (m.getD i 0)=q;generalize bQ l' i=q';intro hr hob;cases hr with
   |dead=>trivial|arr=>simp only[ObR]at hob |-;obtain⟨hk,cur,e,fz,h1,h2,h3,h4,h5⟩:=hob;exact⟨hk,cur,e,fz,h1,h2,h3,h4,λj x hx=>cZ hle x _ (h5 j x hx)⟩
   |map=>simp only[ObR]at hob |-;obtain⟨es,clk,h1,h2,h3⟩:=hob;exact⟨es,clk,h1,h2,qq hle h3⟩
   |cells hrr=>obtain⟨hln,hg⟩:=ux hrr;simp only[ObR]at hob |-;obtain⟨cur,e,fz,h1,h2,h3,h4,h5⟩:=hob;refine⟨cur,e,fz,h1,h2,h3,by rw[hln];exact h4,λj y hy=> ?_⟩;obtain⟨x,hx,hxy⟩:=hg j y hy;exact(o9 h0 hxy (h5 j x hx)).1
  ·generalize hq:bQ l' i=q at hd;cases q with|dead=>trivial|cells=>exact absurd trivial hd|arr=>exact absurd trivial hd|map=>exact absurd trivial hd
 ·have hne:lev≠L:=bu;rw[hβ lev i hne,show (G.order L m).sz lev i=G.sz lev i by simp[Gh.order,hne]];exact ey (hle.below lev) (cw _) (λ_ h=>by omega) (λ_=>⟨rfl,rfl⟩) (λ_ _ _ _ _ _ _ _ _ _ _=>⟨rfl,rfl⟩) (R.mu lev i hlt)
 ·rcases hlive lev i h with⟨h1,_,h3,h4⟩|⟨rfl,h1,h2,h3,_⟩<;>rcases hlive lev' i' h' with⟨h1',_,h3',h4'⟩|⟨rfl,h1',h2',h3',_⟩
  ·rw[h3,h3']at e;exact R.inj lev i lev' i' h4 h4' e
  ·rw[h3,h3']at e;have:=(R.inj _ _ _ _ h4 h2' e).1;omega
  ·rw[h3,h3']at e;have:=(R.inj _ _ _ _ h2 h4' e).1;omega
  ·rw[h3,h3']at e;exact⟨rfl,hget h1 h1' (R.inj _ _ _ _ h2 h2' e).2⟩
 ·rcases hown q b h with⟨t,rfl,h1⟩|⟨lev,i,k,rfl,hlt,h1⟩|⟨i,k,rfl,hi,h1⟩<;>rcases hown q' b h' with⟨t',rfl,h1'⟩|⟨lev',i',k',rfl,hlt',h1'⟩|⟨i',k',rfl,hi',h1'⟩
  ·exact R.own _ _ b h1 h1'
  ·exact R.own _ _ b h1 h1'
  ·have:=R.own _ _ b h1 h1';cases this
  ·exact R.own _ _ b h1 h1'
  ·exact R.own _ _ b h1 h1'
  ·have:=R.own _ _ b h1 h1';injection this with a1 a2 a3;omega
  ·have:=R.own _ _ b h1 h1';cases this
  ·have:=R.own _ _ b h1 h1';injection this with a1 a2 a3;omega
  ·have:=R.own _ _ b h1 h1';injection this with a1 a2 a3;rw[hget hi hi' a2,a3]
 ·have hlv': ∃lev2 i2,b6 (bP (μ++[s.lam]) lev2 i2)/\G.β lev2 i2=b:=by
   rcases hlive lev i h' with⟨h1,_,h3,h4⟩|⟨rfl,h1,h2,h3,_⟩
   ·exact⟨lev,i,h4,by rw[<-h3];exact e⟩
   ·exact⟨_,_,h2,by rw[<-h3];exact e⟩
  obtain⟨lev2,i2,h2,e2⟩:=hlv';rcases hown q b h with⟨t,rfl,h1⟩|⟨lev,i,k,rfl,hlt,h1⟩|⟨i,k,rfl,hi,h1⟩
  ·exact R.apart _ b lev2 i2 h1 h2 e2
  ·exact R.apart _ b lev2 i2 h1 h2 e2
  ·exact R.apart _ b lev2 i2 h1 h2 e2
 ·simp only[eD,dG];exact h0
 ·rcases hb with⟨q,hb⟩|⟨lev,i,hb,e⟩
  ·rcases hown q b hb with⟨t,rfl,h1⟩|⟨lev,i,k,rfl,hlt,h1⟩|⟨i,k,rfl,hi,h1⟩
   ·exact .inl ⟨_,h1⟩
   ·exact .inl ⟨_,h1⟩
   ·exact .inl ⟨_,h1⟩
  ·rcases hlive lev i hb with⟨h1,_,h3,h4⟩|⟨rfl,h1,h2,h3,_⟩
   ·exact .inr ⟨lev,i,h4,by rw[<-h3];exact e⟩
   ·exact .inr ⟨_,_,h2,by rw[<-h3];exact e⟩
 ·have hne:l≠L:=bu;simp[Gh.order,hne]
def T5 {mo nl:Nat}{x y:LV}{v:Value}(h:HU mo x=some y)(hx:LVR G w L nl x v):LVR G w L nl y v/\ ∀b,bZ y v b->bZ x v b:=by
 unfold HU at h;split at h
 ·simp only[bJ]at h;subst h;exact⟨nS hx,λb hb=>absurd hb mB⟩
 ·obtain⟨xs,h1,h2⟩:=bz.1 h;simp only[bJ]at h2;subst h2;exact mM h1 hx
 ·obtain⟨xs,h1,h2⟩:=bz.1 h;simp only[bJ]at h2;subst h2;exact DL h1 hx
 ·obtain⟨xs,h1,h2⟩:=bz.1 h;simp only[bJ]at h2;subst h2;exact⟨by simp only[LVR];exact i7 h1 hx,λb hb=>by simp[bZ]at hb⟩
def JE {fr:Fr}: ∀{live:List (Nat×Nat)} {vs:List LV},u7 fr live=some vs-> ∀t,gJ (m4 (live.map Prod.fst) vs) t= .cv .undef\/ ∃mo y,HU mo (fr t)=some y/\gJ (m4 (live.map Prod.fst) vs) t=y
 |[],vs,h,t=>by simp only[u7,bJ]at h;subst h;exact .inl rfl|q::r,vs,h,t=>by
  simp only[u7]at h;obtain⟨v,h1,h⟩:=bz.1 h;obtain⟨l,h2,h⟩:=bz.1 h;simp only[bJ]at h;subst h;simp only[dQ,m4,gJ];split
  ·rename_i e;have:=eC e;grind
  ·exact JE h2 t
def Ep {m:List Nat}: ∀{ts:List Nat} {vs us:List LV},ii m vs=some us-> ∀t,iz m (gJ (m4 ts vs) t)=some (gJ (m4 ts us) t)
 |[],vs,us,h,t=>by simp[m4,gJ,iz]|u::ts,[],us,h,t=>by simp only[ii,bJ]at h;subst h;simp[m4,gJ,iz]|u::ts,v::vs,us,h,t=>by
  simp only[ii]at h;obtain⟨y,h1,h⟩:=bz.1 h;obtain⟨l,h2,h⟩:=bz.1 h;simp only[bJ]at h;subst h;simp only[m4,gJ];split
  ·exact h1
  ·exact Ep h2 t
def Rel.weaken (R:Rel G L s μ tm w){i:Nat}{cs cs':List LV}(ho:bQ s.lam i= .cells cs)(hl:cs'.length=cs.length)
 (hc: ∀(k:Nat) x',cs'[k]? =some x'-> ∃x,cs[k]? =some x/\ ∀v,LVR G w L s.lam.length x v->LVR G w L s.lam.length x' v/\ ∀b,bZ x' v b->bZ x v b):
 Rel G L {s with lam:=s.lam.set i (.cells cs')} μ tm w/\Ext L (bH G w s μ tm) G w G w (bH G w {s with lam:=s.lam.set i (.cells cs')} μ tm):=by
 have hμ:=R.lev;have hi:i<s.lam.length:=ld (by rw[ho];trivial);have eL: ∀(l:Lam) j,bP (μ++[l]) L j=bQ l j:=λl j=>by rw[<-hμ];exact cV
 have hlam: ∀j,bQ (s.lam.set i (.cells cs')) j=if j=i then .cells cs' else bQ s.lam j:=by intro j;simp only[bQ];grind
 have hlt: ∀lev j,lev<L->bP (μ++[s.lam.set i (.cells cs')]) lev j=bP (μ++[s.lam]) lev j:=λlev j h=>by rw[bP,bP,cS bu,cS bu]
 have hgt: ∀(l:Lam) lev j,L<lev->bP (μ++[l]) lev j= .dead:=λl lev j h=>by rw[bP,mW bu]
 have hlive: ∀lev j,b6 (bP (μ++[s.lam.set i (.cells cs')]) lev j)->b6 (bP (μ++[s.lam]) lev j):=by
  intro lev j h;rcases q8 lev L with h1|h1|h1
  ·simp_all
  ·subst h1;rw[eL,hlam]at h;rw[eL];split at h
   ·rename_i e;rw[e,ho];trivial
   ·exact h
  simp_all
 have hob:=R.lam i;rw[ho]at hob;simp only[ObR]at hob;obtain⟨cur,e,fz,h1,h2,h3,h4,h5⟩:=hob;have hown: ∀q b,bF G w s.fr tm (μ++[s.lam.set i (.cells cs')]) q b->bF G w s.fr tm (μ++[s.lam]) q b:=by
  intro q b h;cases q with|fr t=>exact h|ob lev j k=>simp only[bF]at h |-;grind
 refine⟨⟨hμ,λt=> ?_,λj=> ?_,R.mu,λlev j lev' j' h h'=>R.inj lev j lev' j' (hlive lev j h) (hlive lev' j' h'),λq q' b h h'=>R.own q q' b (hown q b h) (hown q' b h'),λq b lev j h h'=>R.apart q b lev j (hown q b h) (hlive lev j h'),R.nlt,?_,R.ngt⟩,Ext.refl G w λb hb=> ?_⟩
 ·simp only[Gm];exact R.fr t
 ·simp only[Gm];rw[hlam];split
  ·rename_i ej;subst ej;simp only[ObR];grind
  ·exact R.lam j
 ·simp only[Gm];exact R.nL
 ·rcases hb with⟨q,hb⟩|⟨lev,j,hb,e⟩
  ·exact .inl ⟨q,hown q b hb⟩
  ·exact .inr ⟨lev,j,hlive lev j hb,e⟩
def y2 {α:Type}{nl:Nat}: ∀{ms:List Nat} {cs:List LV} {k:List LV->Option α} {r:α},jK ms cs k=some r->
 ∃cs',k cs'=some r/\cs'.length=cs.length/\ ∀(j:Nat) x',cs'[j]? =some x'-> ∃x,cs[j]? =some x/\ ∀v,LVR G w L nl x v->LVR G w L nl x' v/\ ∀b,bZ x' v b->bZ x v b
 |[],cs,k,r,h=>⟨cs,h,rfl,λj x hx=>⟨x,hx,λv hv=>⟨hv,λ_ hb=>hb⟩⟩⟩|m::ms,[],k,r,h=>by simp[jK]at h|m::ms,c::cs,k,r,h=>by
  simp only[jK,Dz]at h;have key: ∀c',(jK ms cs λr=>k (c'::r))=some r->(∀v,LVR G w L nl c v->LVR G w L nl c' v/\ ∀b,bZ c' v b->bZ c v b)->
   ∃cs',k cs'=some r/\cs'.length=(c::cs).length/\ ∀(j:Nat) x',cs'[j]? =some x'-> ∃x,(c::cs)[j]? =some x/\ ∀v,LVR G w L nl x v->LVR G w L nl x' v/\ ∀b,bZ x' v b->bZ x v b:=by
   intro c' h hc;obtain⟨cs',h1,h2,h3⟩:=y2 h;refine⟨c'::cs',h1,by simp[h2],λj x' hx'=> ?_⟩;cases j with|zero=>simp only[eu,bJ]at hx';subst hx';exact⟨c,rfl,hc⟩|succ j=>exact h3 j x' (by simpa using hx')
  split at h
  ·exact key c h λv hv=>⟨hv,λ_ hb=>hb⟩
  ·obtain⟨xs,h1,h2⟩:=bz.1 h;exact key _ h2 λv hv=>mM h1 hv
  ·obtain⟨x,h1,h2⟩:=bz.1 h;exact key _ h2 λv hv=>⟨by simp only[LVR];exact it h1 hv,λb hb=>by simp[bZ]at hb⟩
  ·obtain⟨xs,h1,h2⟩:=bz.1 h;exact key _ h2 λv hv=>⟨by simp only[LVR];exact i7 h1 hv,λb hb=>by simp[bZ]at hb⟩
def Rel.setPushed (R:Rel G L s μ tm w):Rel (G.push L s.lam.length) L {s with pushed:=true} μ tm w/\
 Ext L (bH G w s μ tm) G w (G.push L s.lam.length) w (bH (G.push L s.lam.length) w {s with pushed:=true} μ tm):=by
 have hle:Le G w (G.push L s.lam.length) w:=pr λi h=>by have:=R.nL;grind
 have hbel: ∀lev,lev<L->(G.push L s.lam.length).below lev=G.below lev:=by intro lev h;simp only[Gh.below,Gh.push,Gh.mk.injEq,kK,j6];grind
 have hO: ∀q b,bF (G.push L s.lam.length) w s.fr tm (μ++[s.lam]) q b->bF G w s.fr tm (μ++[s.lam]) q b:=by intro q b h;cases q<;>exact h
 refine ⟨⟨R.lev, λt => fw hle (cw _) (λi _ => ⟨rfl, rfl⟩) _ _ (λb _ => ⟨rfl, rfl⟩) (R.fr t), λi => ?_, λlev i h => ?_, R.inj,
  λq q' b h h'=>R.own q q' b (hO q b h) (hO q' b h'),λq b lev i h h'=>R.apart q b lev i (hO q b h) h',λlev h=> ?_,?_,λlev h=> ?_⟩,?_⟩
 ·exact ey hle (cw _) (λi _=>⟨rfl,rfl⟩) (λ_=>⟨rfl,rfl⟩) (λ_ _ _ _ _ _ _ _ _ _ _=>⟨rfl,rfl⟩) (R.lam i)
 ·rw[hbel lev h];exact R.mu lev i h
 ·simp only[Gh.push];rw[bE bu];exact R.nlt lev h
 ·simp[Gh.push]
 ·simp only[Gh.push];rw[bE bu];exact R.ngt lev h
 ·refine⟨hle,rfl,rfl,rfl,cw _,λ_ _ _=>⟨rfl,rfl⟩,λb hb=> .inl ?_,λl hl=>⟨λ_=>⟨rfl,rfl⟩,?_⟩⟩
  ·rcases hb with⟨q,hb⟩|hb
   ·exact .inl ⟨q,hO q b hb⟩
   ·exact .inr hb
  ·simp only[Gh.push];rw[bE bu]
def o5 {α:Type}: ∀{obs:List (Nat×List Nat)} {G:Gh} {s:S} {k:S->Option α} {r:α},pS obs s k=some r->Rel G L s μ tm w->
 ∃s' G',k s'=some r/\Rel G' L s' μ tm w/\Ext L (bH G w s μ tm) G w G' w (bH G' w s' μ tm)
 |[],G,s,k,r,h,R=>⟨s,G,h,R,Ext.refl G w λ_ hb=>hb⟩|q::l,G,s,k,r,h,R=>by
  simp only[pS]at h;split at h
  ·obtain⟨R1,E1⟩:=R.setPushed;obtain⟨s',G',h4,R2,E2⟩:=o5 h R1;exact⟨s',G',h4,R2,E1.trans E2⟩
  split at h<;>try(simp at h;done)
  rename_i cs ho;obtain⟨cs',h1,h2,h3⟩:=y2 (G:=G) (w:=w) (L:=L) (nl:=s.lam.length) h;obtain⟨R1,E1⟩:=R.weaken ho h2 h3;obtain⟨s',G',h4,R2,E2⟩:=o5 h1 R1;exact⟨s',G',h4,R2,E1.trans E2⟩
def gd {α:Type}{live:List (Nat×Nat)}{k:S->Option α}{r:α}(h:fU live s k=some r)(R:Rel G L s μ tm w):
 ∃s' G',k s'=some r/\Rel G' L s' μ tm w/\Ext L (bH G w s μ tm) G w G' w (bH G' w s' μ tm):=by
 unfold fU at h;obtain⟨vs,h1,h⟩:=bz.1 h;obtain⟨R1,hO⟩:=R.refr (fr':=gJ (m4 (live.map Prod.fst) vs)) λt=>by
  rcases JE h1 t with e|⟨mo,y,h2,e⟩
  ·rw[e];exact⟨by simp[LVR,VR],λb hb=>by simp[bZ]at hb⟩
  ·rw[e];exact T5 h2 (R.fr t)
 have E1:Ext L (bH G w s μ tm) G w G w (bH G w {s with fr:=gJ (m4 (live.map Prod.fst) vs)} μ tm):=Ext.refl G w λb hb=>by
  rcases hb with⟨l,hb⟩|hb
  ·exact .inl ⟨l,hO l b hb⟩
  ·exact .inr hb
 split at h
 ·grind
 ·rename_i hp;obtain⟨us,h2,h⟩:=bz.1 h;obtain⟨l,h3,h⟩:=bz.1 h;obtain⟨R2,E2⟩:=R1.reorder hp (qk _ _ _ _ bG) (Ep h2) h3;exact⟨_,_,h,R2,E1.trans E2⟩
def pY {x y:Bool}(h:(match x with|true=>y|false=>false)=true):x=true/\y=true:=by grind
def DE {m:Nat}:Le (G.cut L) w ((G.cut L).push L m) w:=pr λi h=>by simp[Gh.cut]at h
def Vr {m:Nat}(hg: ∀lev,L<lev->G.n lev=0){c:CV}{v:Value}(hb:EM L m c=true)(h:VR G w c v):VR ((G.cut L).push L m) w c v:=by
 have key: ∀c:CV,below L c=true->VR G w c v->VR ((G.cut L).push L m) w c v:=λc hb h=>cZ DE _ _ (gV c v hb h);cases c with
 |ref lev i off=>
  simp only[VR]at h |-;refine⟨?_,h.2⟩;simp only[Gh.push,Gh.cut];simp only[EM]at hb;split at hb
  ·rename_i hl;have hl:lev<L:=by simpa using hl
   grind
  ·rename_i hl;have hl: ¬lev<L:=λh=>by rw[<-ot]at h;rw[h]at hl;cases hl
   have:lev=L:=by grind
   simp_all
 |tref lev i t n=>
  simp only[VR]at h |-;refine⟨?_,h.2⟩;simp only[Gh.push,Gh.cut];simp only[EM]at hb;split at hb
  ·rename_i hl;have hl:lev<L:=by simpa using hl
   grind
  ·rename_i hl;have hl: ¬lev<L:=λh=>by rw[<-ot]at h;rw[h]at hl;cases hl
   have:lev=L:=by grind
   simp_all
 |_=>exact key _ hb h
mutual
def xV {m nl:Nat}(hg: ∀lev,L<lev->G.n lev=0): ∀(x:LV) (v:Value),mw L m x=true->LVR G w L nl x v->LVR ((G.cut L).push L m) w L m x v
 | .cv c,v,hb,h=>by simp only[LVR]at h |-;exact Vr hg hb h| .osl xs,v,hb,h=>by
  simp only[LVR]at h |-;have:=Gr (m:=L) hb h;rcases this with h|⟨b,cap,cur,e,s,h1,h2,h3,h4,h5,h6,h7,h8,h9,h10⟩
  ·exact .inl h
  ·exact .inr ⟨b,cap,cur,e,s,h1,h2,h3,h4,h5,h6,h7,g7 DE b s 0 xs h8,h9,h10⟩
 | .ost xs,v,hb,h=>by simp only[LVR]at h |-;exact h| .stl n,v,hb,h=>by simpa[LVR]using h| .loc i off,v,hb,h=>by simp only[LVR]at h |-;exact⟨by simpa[mw]using hb,h.2⟩| .lsl i off len,v,hb,h=>by simp only[LVR]at h |-;exact⟨by simpa[mw]using hb,h.2⟩| .mloc i,v,hb,h=>by simp only[LVR]at h |-;exact⟨by simpa[mw]using hb,h.2⟩| .tloc i t n,v,hb,h=>by simp only[LVR]at h |-;exact⟨by simpa[mw]using hb,h.2⟩| .lclo f caps,v,hb,h=>by simp only[LVR]at h |-;obtain⟨vs,e,hl⟩:=h;exact⟨vs,e,Dd hg caps _ (by simpa[mw]using hb) hl⟩
 | .ltup xs,v,hb,h=>by simp[mw]at hb
def Dd {m nl:Nat}(hg: ∀lev,L<lev->G.n lev=0): ∀(xs:List LV) (vs:List Value),nn L m xs=true->dV G w L nl xs vs->dV ((G.cut L).push L m) w L m xs vs
 |[],vs,hb,h=>by simpa[dV]using h|x::xs,vs,hb,h=>by simp only[dV]at h |-;simp only[nn]at hb;obtain⟨hb1,hb2⟩:=pY hb;obtain⟨v,r,e,h0,h1,h2⟩:=h;exact⟨v,r,e,h0,xV hg x v hb1 h1,Dd hg xs r hb2 h2⟩
end
def EN {m:Nat}: ∀{xs:List LV} {j:Nat} {x:LV},nn L m xs=true->xs[j]? =some x->mw L m x=true
 |[],j,x,hb,h=>by simp at h|y::ys,j,x,hb,h=>by
  simp only[nn]at hb;obtain⟨hb1,hb2⟩:=pY hb;cases j with|zero=>simp only[eu,bJ]at h;subst h;exact hb1|succ j=>exact EN hb2 (by simpa using h)
def Dr {m:Nat}: ∀{xs:List CV} {j:Nat} {x:CV},dl m xs=true->xs[j]? =some x->below m x=true
 |[],j,x,hb,h=>by simp at h|y::ys,j,x,hb,h=>by
  obtain⟨hb1,hb2⟩:=cW hb;cases j with|zero=>simp only[eu,bJ]at h;subst h;exact hb1|succ j=>exact Dr hb2 (by simpa using h)
def Ad {m:Nat}: ∀{xs:List Ob} {j:Nat} {x:Ob},tc L m xs=true->xs[j]? =some x->FX L m x=true
 |[],j,x,hb,h=>by simp at h|y::ys,j,x,hb,h=>by
  simp only[tc]at hb;obtain⟨hb1,hb2⟩:=pY hb;cases j with|zero=>simp only[eu,bJ]at h;subst h;exact hb1|succ j=>exact Ad hb2 (by simpa using h)
def Sf {m nl b sz:Nat}(hg: ∀lev,L<lev->G.n lev=0){o:Ob}(hb:FX L m o=true)(h:ObR G w L nl b sz o):ObR ((G.cut L).push L m) w L m b sz o:=by
 cases o with
 |dead=>trivial|cells cs=>simp only[ObR]at h |-;obtain⟨cur,e,fz,h1,h2,h3,h4,h5⟩:=h;exact⟨cur,e,fz,h1,h2,h3,h4,λj x hx=>xV hg x _ (EN hb hx) (h5 j x hx)⟩
 |arr k cs=>simp only[ObR]at h |-;obtain⟨hk,cur,e,fz,h1,h2,h3,h4,h5⟩:=h;exact⟨hk,cur,e,fz,h1,h2,h3,h4,λj x hx=>cZ DE _ _ (gV x _ (Dr hb hx) (h5 j x hx))⟩
 |map ks vs=>simp only[ObR]at h |-;obtain⟨es,clk,h1,h2,h3⟩:=h;exact⟨es,clk,h1,h2,h3.1,k7 DE _ _ (uL vs _ hb h3.2)⟩
def Rel.trunc (R:Rel G L s μ tm w)(hp:s.pushed=true){m:Nat}(hm:m<=s.lam.length)(hf: ∀t,mw L m (s.fr t)=true)(hl:tc L m (s.lam.take m)=true):
 Rel ((G.cut L).push L m) L {s with lam:=s.lam.take m} μ tm w/\(∀b,bH ((G.cut L).push L m) w {s with lam:=s.lam.take m} μ tm b->bH G w s μ tm b):=by
 have hμ:=R.lev;have hlen:(s.lam.take m).length=m:=cr;have eL: ∀(l:Lam) j,bP (μ++[l]) L j=bQ l j:=λl j=>by rw[<-hμ];exact cV
 have hlt: ∀lev j,lev<L->bP (μ++[s.lam.take m]) lev j=bP (μ++[s.lam]) lev j:=λlev j h=>by rw[bP,bP,cS bu,cS bu]
 have hgt: ∀(l:Lam) lev j,L<lev->bP (μ++[l]) lev j= .dead:=λl lev j h=>by rw[bP,mW bu]
 have hlam: ∀i,bQ (s.lam.take m) i=if i<m then bQ s.lam i else .dead:=by
  intro i;by_cases h:i<m
  ·rw[bK h];simp only[bQ,AS h]
  ·rw[bE h];simp only[bQ];rw[List.getElem?_take_eq_none bu]
 have hat: ∀lev i,bP (μ++[s.lam.take m]) lev i=bP (μ++[s.lam]) lev i\/bP (μ++[s.lam.take m]) lev i= .dead:=by grind
 have hlive: ∀lev i,b6 (bP (μ++[s.lam.take m]) lev i)->b6 (bP (μ++[s.lam]) lev i):=by
  intro lev i h;rcases hat lev i with e|e
  ·simp_all
  ·rw[e]at h;exact h.elim
 have hown: ∀q b,bF ((G.cut L).push L m) w s.fr tm (μ++[s.lam.take m]) q b->bF G w s.fr tm (μ++[s.lam]) q b:=by
  intro q b h;cases q with
  |fr t=>exact h|ob lev i k=>
   rcases hat lev i with e|e
   ·simp only[bF]at h |-;rw[e]at h;exact h
   ·simp only[bF,e]at h
 have hbel: ∀lev,lev<L->((G.cut L).push L m).below lev=G.below lev:=by intro lev h;simp only[Gh.below,Gh.push,Gh.cut,Gh.mk.injEq,kK,j6];grind
 refine ⟨⟨R.lev, λt => ?_, λi => ?_, λlev i h => ?_, λlev i lev' i' h h' e => R.inj lev i lev' i' (hlive _ _ h) (hlive _ _ h') e,
  λq q' b h h'=>R.own q q' b (hown q b h) (hown q' b h'),λq b lev i h h'=>R.apart q b lev i (hown q b h) (hlive _ _ h'),λlev h=> ?_,?_,λlev h=> ?_⟩,λb hb=> ?_⟩
 ·show LVR _ w L (s.lam.take m).length _ _;rw[hlen];exact xV R.ngt _ _ (hf t) (R.fr t)
 ·show ObR _ w L (s.lam.take m).length _ _ (bQ (s.lam.take m) i);rw[hlen,hlam];split
  ·rename_i hi;refine Sf R.ngt (Ad (j:=i) hl ?_) (R.lam i);rw[AS hi,bQ,dA bu]
  ·trivial
 ·rw[hbel lev h];exact R.mu lev i h
 ·simp only[Gh.push,Gh.cut];rw[bE bu,bK h];exact R.nlt lev h
 ·show ((G.cut L).push L m).n L=if s.pushed then(s.lam.take m).length else 0;rw[hp,hlen];simp[Gh.push]
 ·simp only[Gh.push,Gh.cut];rw[bE bu,bE bu]
 ·rcases hb with⟨q,hb⟩|⟨lev,i,hb,e⟩
  ·exact .inl ⟨q,hown q b hb⟩
  ·exact .inr ⟨lev,i,hlive lev i hb,e⟩
def Ey {fr:Fr}{m:Nat}: ∀{live:List (Nat×Nat)},nn L m (EO (jG fr live))=true-> ∀t,(gJ (jG fr live) t= .cv .undef\/gJ (jG fr live) t=fr t)/\mw L m (gJ (jG fr live) t)=true
 |[],hb,t=>⟨.inl rfl,rfl⟩|q::r,hb,t=>by
  simp only[jG,EO,nn]at hb;obtain⟨hb1,hb2⟩:=pY hb;simp only[jG,gJ];split
  ·simp_all
  ·exact Ey hb2 t
def s9 {α:Type}{live:List (Nat×Nat)}{k:S->Option α}{r:α}(h:nj L live s k=some r)(R:Rel G L s μ tm w){T:Nat->Prop}{G0:Gh}{w0:World}(E:Ext L T G0 w0 G w (bH G w s μ tm))(h0:G0.n L=0):
 ∃s' G',k s'=some r/\Rel G' L s' μ tm w/\Ext L T G0 w0 G' w (bH G' w s' μ tm):=by
 unfold nj at h;split at h
 ·grind
 ·rename_i m hm;obtain⟨hc,h⟩:=bM.1 h;simp only[cM]at hc;obtain⟨⟨⟨hp,hlen⟩,hu⟩,ho⟩:=hc;have hsl:=Ey (fr:=s.fr) hu;obtain⟨R1,hO⟩:=R.refr (fr':=gJ (jG s.fr live)) λt=>by
   rcases(hsl t).1 with e|e
   ·rw[e];exact⟨by simp[LVR,VR],λb hb=>by simp[bZ]at hb⟩
   ·rw[e];exact⟨R.fr t,λ_ hb=>hb⟩
  obtain⟨R2,hT⟩:=R1.trunc hp (fO hlen) (λt=>(hsl t).2) ho;have e:({fr:=gJ (jG s.fr live),lam:=s.lam.take m,pushed:=true}:S)={s with fr:=gJ (jG s.fr live),lam:=s.lam.take m}:=by simp_all
  rw[e]at h;refine⟨_,_,h,R2,⟨⟨E.le.map,λlev i hi=> ?_,E.le.imm,E.le.blk⟩,E.os,E.tape,E.output,E.size,E.keep,λb hb=>E.grow b ?_,λl hl=>⟨(E.lev l hl).1,?_⟩⟩⟩
  ·obtain⟨h1,h2,h3⟩:=E.le.ref lev i hi;refine⟨?_,h2,h3⟩;rcases q8 lev L with hl|hl|hl
   ·simp only[Gh.push,Gh.cut];rw[bE bu,bK hl];exact h1
   ·simp_all
   ·have:=R.ngt lev hl;omega
  ·have:=hT b hb;rcases this with⟨q,hb⟩|hb
   ·exact .inl ⟨q,hO q b hb⟩
   ·exact .inr hb
  ·simp only[Gh.push,Gh.cut];rw[bE bu,bK hl];exact(E.lev l hl).2
end
def lS (L:Nat)(T:Nat->Prop)(G:Gh)(w:World)(n:Nat)(ds:Keep)(s:S)(μ:Mu)(a:Act)(w':World)(G':Gh):Prop:=
 Rel G' L s μ a.tmps w'/\Ext L T G w G' w' (bH G' w' s μ a.tmps)/\a.tmps.size=n/\ds.at a/\G.n L=0
def StR (L:Nat)(T:Nat->Prop)(G:Gh)(w:World)(n:Nat)(ds:Keep):St->Exit->Act->World->Prop
 | .norm s μ,.normal,a,w'=> ∃G',lS L T G w n ds s μ a w' G'| .exit i s μ,.exit j,a,w'=>i=j/\ ∃G',lS L T G w n ds s μ a w' G'| .ret s μ,.ret,a,w'=> ∃G',lS L T G w n ds s μ a w' G'| .panic v s μ,.panic ch,a,w'=> ∃G' pv,ch=[{v:=pv,recovered:=false}]/\VR G' w' v pv/\lS L T G w n ds s μ a w' G'|_,_,_,_=>False
def vY (P:Program)(c:Code)(Q:Exit->Act->World->Prop)(a:Act)(w:World):Prop:=
 ∀(b:Frame) (k:List Item) (cs:List Frame),∃e a' w',Q e a' w'/\Arrives P (lone (b.at a (.code c:: .inLoop c::k)) cs w) b k cs e a' w'
def pt (P:Program)(W0:World)(ρ:Rho):Prop:= ∀H lv c s μ st,ρ.loop H lv c s μ=some st-> ∀L G w a Q T G0 w0 n (ds:Keep),gt n ds.slot c=true->Kn W0 w0 T->lS L T G0 w0 n ds s μ a w G->
 (∀e a' w',StR L T G0 w0 n ds st e a' w'->Q e a' w')->vY P c Q a w
def sx (P:Program)(W0:World)(ρ:Rho):Prop:= ∀H lv c s μ st,ρ.seg H lv c s μ=some st-> ∀L G w a Q T G0 w0 n (ds:Keep),gt n ds.slot c=true->Kn W0 w0 T->lS L T G0 w0 n ds s μ a w G->
 (∀e a' w',StR L T G0 w0 n ds st e a' w'->Q e a' w')->c.wp P Q a w
section
variable {P:Program}{W0:World}{ρ:Rho}{Q:Exit->Act->World->Prop}{a:Act}{w:World}{c:Code}
def vY.wp (h:vY P c Q a w):(Code.loop c).wp P Q a w:=by intro b k cs;obtain⟨e,a',w',hq,harr⟩:=h b k cs;exact⟨e,a',w',hq,.of_steps (.one step_loop) harr⟩
def vY.unroll (h:c.wp P (Exit.then (vY P c Q) Q) a w):vY P c Q a w:=by
 intro b k cs;obtain⟨e,a₁,w₁,hq,harr⟩:=h b (.inLoop c::k) cs;cases e with
 |normal=>obtain⟨e₂,a₂,w₂,hq₂,harr₂⟩:=hq b k cs;exact⟨e₂,a₂,w₂,hq₂,.of_steps (Steps.trans harr (.one step_inLoop)) harr₂⟩
 |exit id=>exact⟨_,a₁,w₁,hq,.pass (x:= .inLoop c) rfl (λ_ _=> .inl bG) harr⟩|goto l=>exact⟨_,a₁,w₁,hq,.pass (x:= .inLoop c) rfl (λ_ _=> .inl bG) harr⟩|ret=>exact⟨_,a₁,w₁,hq,.pass (x:= .inLoop c) rfl (λ_ _=> .inl bG) harr⟩|panic ch=>exact⟨_,a₁,w₁,hq,.pass (x:= .inLoop c) rfl (λ_ _=> .inl bG) harr⟩|outgrown=>exact⟨_,a₁,w₁,hq,.pass (x:= .inLoop c) rfl (λ_ _=> .inl bG) harr⟩
def gb (hm:P.follows .mixedOrders=true)(hrho:gN P W0 ρ)(hloop:pt P W0 ρ)(hseg:sx P W0 ρ){H:Hints}: ∀(c:Code) {α:Type} {k:St->Option α} {r:α} {Q:Exit->Act->World->Prop} {L:Nat} {T:Nat->Prop} {G0 G:Gh} {w0 w:World} {n:Nat} {ds:Keep} {s:S} {μ:Mu} {a:Act},
 gt n ds.slot c=true->Kn W0 w0 T->dP P ρ H c s μ k=some r->lS L T G0 w0 n ds s μ a w G->(∀st e a' w',k st=some r->StR L T G0 w0 n ds st e a' w'->Q e a' w')->c.wp P Q a w
 | .skip,α,k,r,Q,L,T,G0,G,w0,w,n,ds,s,μ,a,hc,hkn,h,hs,hk=>by simp only[dP]at h;exact wp_skip (hk _ _ _ _ h ⟨G,hs⟩)| .region id ops draw,α,k,r,Q,L,T,G0,G,w0,w,n,ds,s,μ,a,hc,hkn,h,hs,hk=>by
  simp only[dP]at h;simp only[gt]at hc;obtain⟨R,E,hn,hd,h0⟩:=hs;split at h
  ·refine wp_region (ll (L:=L) (G0:=G0) (w0:=w0) (T:=T) (n:=n) (ds:=ds) hrho (λi o ho d hd=>o7 hc (by simpa using ho) d hd) hkn ?_ ?_ _ h R E hn hd)
   ·intro s' μ' a' w' G' h' R' E' hn' hd';exact hk _ .normal a' w' h' ⟨G',R',E',hn',hd',h0⟩
   ·intro v s' μ' pv a' w' G' h' R' hv E' hn' hd';exact hk _ (.panic _) a' w' h' ⟨G',pv,rfl,hv,R',E',hn',hd',h0⟩
  ·obtain⟨hdr,h⟩:=bM.1 h;refine LC (L:=L) (G0:=G0) (w0:=w0) (T:=T) (n:=n) (ds:=ds) hrho hm hdr (λi o ho d hd=>o7 hc (by simpa using ho) d hd) hkn ?_ ?_ h R E hn hd
   ·intro s' μ' a' w' G' h' R' E' hn' hd';exact hk _ .normal a' w' h' ⟨G',R',E',hn',hd',h0⟩
   ·cases hso:AM H id ops ops.size with
    |false=>exact .inl λ_ _ _=>rfl|true=>
     refine .inr ⟨rfl,?_,λv s s' μ h1 h2=> ?_⟩
     ·intro v s' μ' pv a' w' G' h' R' hv E' hn' hd';obtain⟨_,h'⟩:=bM.1 h';obtain⟨s2,G2,h2,R2,E2⟩:=gd h' R';exact hk _ (.panic _) a' w' h2 ⟨G2,pv,rfl,cZ E2.le _ _ hv,R2,E'.trans E2,hn',hd',h0⟩
     ·simp only[fU,u7,opt,h1,h2]
 | .seq x y,α,k,r,Q,L,T,G0,G,w0,w,n,ds,s,μ,a,hc,hkn,h,hs,hk=>by
  simp only[dP]at h;simp only[gt]at hc;obtain⟨hx,hy⟩:=pY hc;refine wp_seq (gb hm hrho hloop hseg x hx hkn h hs λst e a' w' h' hst=> ?_);cases st with
  |norm s' μ'=>
   cases e<;>simp only[StR]at hst;obtain⟨G',hs'⟩:=hst;dsimp only at h';split at h'
   ·exact gb hm hrho hloop hseg y hy hkn h' hs' hk
   ·obtain⟨s1,G1,h1,R1,E1⟩:=o5 h' hs'.1;obtain⟨s2,G2,h2,R2,E2⟩:=gd h1 R1;obtain⟨s3,G3,h2,R3,E3⟩:=s9 (R2.lev▸h2) R2 (hs'.2.1.trans (E1.trans E2)) hs'.2.2.2.2;obtain⟨st,hst,h3⟩:=bz.1 h2;exact hseg _ _ _ _ _ _ hst L G3 w' a' Q T G0 w0 n ds hy hkn ⟨R3,E3,hs'.2.2⟩ λe a' w' hr=>hk st e a' w' h3 hr
  |exit i s' μ'=>cases e<;>first|exact hst.elim|exact hk _ _ _ _ h' hst
  |ret s' μ'=>cases e<;>first|exact hst.elim|exact hk _ _ _ _ h' hst
  |panic v s' μ'=>cases e<;>first|exact hst.elim|exact hk _ _ _ _ h' hst
 | .cond cc x y,α,k,r,Q,L,T,G0,G,w0,w,n,ds,s,μ,a,hc,hkn,h,hs,hk=>by
  simp only[dP]at h;simp only[gt]at hc;obtain⟨hx,hy⟩:=pY hc;obtain⟨b,hb,h⟩:=bz.1 h;have hv:=eA (a:=a) hs.1 (iT hb);simp only[VR]at hv;refine wp_cond hv ?_;cases b with|true=>exact gb hm hrho hloop hseg x hx hkn h hs hk|false=>exact gb hm hrho hloop hseg y hy hkn h hs hk
 | .block id x,α,k,r,Q,L,T,G0,G,w0,w,n,ds,s,μ,a,hc,hkn,h,hs,hk=>by
  simp only[dP]at h;simp only[gt]at hc;refine wp_block (gb hm hrho hloop hseg x hc hkn h hs λst e a' w' h' hst=> ?_);cases st with
  |norm s' μ'=>cases e<;>first|exact hst.elim|exact hk _ _ _ _ h' hst
  |exit i s' μ'=>
   cases e<;>first|exact hst.elim|skip
   simp only[StR]at hst;obtain⟨rfl,hs'⟩:=hst;simp only[Exit.inBlock];dsimp only at h';split at h'
   ·rename_i he;rw[bK (eC he)];exact hk _ .normal _ _ h' hs'
   ·rename_i he;rw[bE λe=>by subst e;simp[pn]at he];exact hk _ (.exit i) _ _ h' ⟨rfl,hs'⟩
  |ret s' μ'=>cases e<;>first|exact hst.elim|exact hk _ _ _ _ h' hst
  |panic v s' μ'=>cases e<;>first|exact hst.elim|exact hk _ _ _ _ h' hst
 | .loop x,α,k,r,Q,L,T,G0,G,w0,w,n,ds,s,μ,a,hc,hkn,h,hs,hk=>by simp only[dP]at h;simp only[gt]at hc;obtain⟨s1,G1,h1,R1,E1⟩:=o5 h hs.1;obtain⟨s',G',h',R',E'⟩:=gd h1 R1;obtain⟨s3,G3,h',R3,E3⟩:=s9 (R'.lev▸h') R' (hs.2.1.trans (E1.trans E')) hs.2.2.2.2;obtain⟨st,hst,h'⟩:=bz.1 h';exact(hloop _ _ _ _ _ _ hst L G3 w a Q T G0 w0 n ds hc hkn ⟨R3,E3,hs.2.2⟩ λe a' w' hr=>hk st e a' w' h' hr).wp
 | .exit id,α,k,r,Q,L,T,G0,G,w0,w,n,ds,s,μ,a,hc,hkn,h,hs,hk=>by simp only[dP]at h;exact wp_exit (hk _ (.exit id) _ _ h ⟨rfl,G,hs⟩)| .ret,α,k,r,Q,L,T,G0,G,w0,w,n,ds,s,μ,a,hc,hkn,h,hs,hk=>by simp only[dP]at h;exact wp_ret (hk _ .ret _ _ h ⟨G,hs⟩)| .rangeFunc ..,α,k,r,Q,L,T,G0,G,w0,w,n,ds,s,μ,a,hc,hkn,h,hs,hk=>by simp[dP]at h| .scope ..,α,k,r,Q,L,T,G0,G,w0,w,n,ds,s,μ,a,hc,hkn,h,hs,hk=>by simp[dP]at h| .label ..,α,k,r,Q,L,T,G0,G,w0,w,n,ds,s,μ,a,hc,hkn,h,hs,hk=>by simp[dP]at h| .goto ..,α,k,r,Q,L,T,G0,G,w0,w,n,ds,s,μ,a,hc,hkn,h,hs,hk=>by simp[dP]at h| .refuse ..,α,k,r,Q,L,T,G0,G,w0,w,n,ds,s,μ,a,hc,hkn,h,hs,hk=>by simp[dP]at h
def KZ (hm:P.follows .mixedOrders=true)(hrho:gN P W0 ρ)(hloop:pt P W0 ρ)(hseg:sx P W0 ρ){H:Hints}{lv:List (Nat×Nat)}{c:Code}{s:S}{μ:Mu}{st:St}(h:qT P ρ H lv c s μ=some st){L:Nat}{G G0:Gh}{w w0:World}{a:Act}{Q:Exit->Act->World->Prop}
 {T:Nat->Prop} {n:Nat} {ds:Keep} (hc:gt n ds.slot c=true) (hkn:Kn W0 w0 T) (hs:lS L T G0 w0 n ds s μ a w G) (hQ: ∀e a' w',StR L T G0 w0 n ds st e a' w'->Q e a' w'):vY P c Q a w:=by
 unfold qT at h;refine .unroll (gb hm hrho hloop hseg c hc hkn h hs λst1 e a' w' h' hst=> ?_);cases st1 with
 |norm s1 μ1=>cases e<;>simp only[StR]at hst;obtain⟨G1,hs1⟩:=hst;obtain⟨s3,G3,h3,R3,E3⟩:=o5 h' hs1.1;obtain⟨s2,G2,h2,R2,E2⟩:=gd h3 R3;obtain⟨s4,G4,h2,R4,E4⟩:=s9 (R2.lev▸h2) R2 (hs1.2.1.trans (E3.trans E2)) hs1.2.2.2.2;exact hloop _ _ _ _ _ _ h2 L G4 w' a' Q T G0 w0 n ds hc hkn ⟨R4,E4,hs1.2.2⟩ hQ
 |exit i s1 μ1=>
  cases e<;>first|exact hst.elim|skip
  simp only[StR]at hst;obtain⟨rfl,G1,hs1⟩:=hst;obtain⟨s2,G2,h2,R2,E2⟩:=gd h' hs1.1;simp only[bJ]at h2;subst h2;exact hQ (.exit i) a' w' ⟨rfl,G2,R2,hs1.2.1.trans E2,hs1.2.2⟩
 |ret s1 μ1=>
  cases e<;>first|exact hst.elim|skip
  simp only[StR]at hst;obtain⟨G1,hs1⟩:=hst;obtain⟨s2,G2,h2,R2,E2⟩:=gd h' hs1.1;simp only[bJ]at h2;subst h2;exact hQ .ret a' w' ⟨G2,R2,hs1.2.1.trans E2,hs1.2.2⟩
 |panic v s1 μ1=>
  cases e<;>first|exact hst.elim|skip
  simp only[StR]at hst;obtain⟨G1,pv,rfl,hv,hs1⟩:=hst;obtain⟨s2,G2,h2,R2,E2⟩:=gd h' hs1.1;simp only[bJ]at h2;subst h2;exact hQ _ a' w' ⟨G2,pv,rfl,cZ E2.le _ _ hv,R2,hs1.2.1.trans E2,hs1.2.2⟩
def Rw (hm:P.follows .mixedOrders=true)(hrho:gN P W0 ρ)(hloop:pt P W0 ρ)(hseg:sx P W0 ρ){H:Hints}{lv:List (Nat×Nat)}{c:Code}{s:S}{μ:Mu}{st:St}(h:zT P ρ H lv c s μ=some st){L:Nat}{G G0:Gh}{w w0:World}{a:Act}{Q:Exit->Act->World->Prop}
 {T:Nat->Prop} {n:Nat} {ds:Keep} (hc:gt n ds.slot c=true) (hkn:Kn W0 w0 T) (hs:lS L T G0 w0 n ds s μ a w G) (hQ: ∀e a' w',StR L T G0 w0 n ds st e a' w'->Q e a' w'):c.wp P Q a w:=by
 unfold zT at h;refine gb hm hrho hloop hseg c hc hkn h hs λst1 e a' w' h' hst=> ?_;cases st1 with
 |norm s1 μ1=>cases e<;>simp only[StR]at hst;obtain⟨G1,hs1⟩:=hst;obtain⟨s2,G2,h2,R2,E2⟩:=gd h' hs1.1;simp only[bJ]at h2;subst h2;exact hQ .normal a' w' ⟨G2,R2,hs1.2.1.trans E2,hs1.2.2⟩
 |exit i s1 μ1=>
  cases e<;>first|exact hst.elim|skip
  simp only[StR]at hst;obtain⟨rfl,G1,hs1⟩:=hst;obtain⟨s2,G2,h2,R2,E2⟩:=gd h' hs1.1;simp only[bJ]at h2;subst h2;exact hQ (.exit i) a' w' ⟨rfl,G2,R2,hs1.2.1.trans E2,hs1.2.2⟩
 |ret s1 μ1=>
  cases e<;>first|exact hst.elim|skip
  simp only[StR]at hst;obtain⟨G1,hs1⟩:=hst;obtain⟨s2,G2,h2,R2,E2⟩:=gd h' hs1.1;simp only[bJ]at h2;subst h2;exact hQ .ret a' w' ⟨G2,R2,hs1.2.1.trans E2,hs1.2.2⟩
 |panic v s1 μ1=>
  cases e<;>first|exact hst.elim|skip
  simp only[StR]at hst;obtain⟨G1,pv,rfl,hv,hs1⟩:=hst;obtain⟨s2,G2,h2,R2,E2⟩:=gd h' hs1.1;simp only[bJ]at h2;subst h2;exact hQ _ a' w' ⟨G2,pv,rfl,cZ E2.le _ _ hv,R2,hs1.2.1.trans E2,hs1.2.2⟩
end
section
variable {P:Program}{W0:World}{ρ:Rho}{L:Nat}{G G':Gh}{w w':World}{s:S}{μ μ':Mu}{tm:Array Value}
def Er (tm:Array Value)(x:ResultVar):Sem Value:=match x with
 | .tmp t=>pure (tm.getD t undef)| .cell a t=>do loadVar t (<-asAddr (tm.getD a undef))
def Xm (R:Rel G L s μ tm w){x:ResultVar}{y:LV}(h:Ru P s x=some y): ∃v,(Er tm x).run P w= .ok v w/\LVR G w L s.lam.length y v/\ ∀b,bZ y v b-> ∃t,bZ (s.fr t) (tm.getD t undef) b:=by
 cases x with
 |tmp t=>simp only[Ru,bJ]at h;subst h;exact⟨_,rfl,R.fr t,λb hb=>⟨t,hb⟩⟩|cell c t=>
  simp only[Ru]at h;split at h<;>try(simp at h;done)
  rename_i i off he;have hv:=R.fr c;rw[he]at hv;simp only[LVR]at hv;unfold cD at h;obtain⟨d,hd,h⟩:=bz.1 h;obtain⟨cv,h1,h2,h3⟩:=sV (R.lam i) h ⟨d,hd⟩;refine⟨cv,?_,h2,λb hb=>absurd hb (h3 b)⟩;simp only[Instr.loadAt,Instr.sureAddr,dc,eW,df]at h1;simp only[Er,hv.2,asAddr,dc,eW,df];exact h1
def Hg (R:Rel G L s μ tm w): ∀{l:List ResultVar} {ys:List LV},AK P s l=some ys-> ∃vs:List Value,(l.mapM (Er tm)).run P w= .ok vs w/\vs.length=ys.length/\
 ∀j y,ys[j]? =some y->LVR G w L s.lam.length y (vs.getD j undef)/\ ∀b,bZ y (vs.getD j undef) b-> ∃t,bZ (s.fr t) (tm.getD t undef) b
 |[],ys,h=>by simp only[AK,bJ]at h;simp_all|x::r,ys,h=>by simp only[AK]at h;obtain⟨y,h1,h⟩:=bz.1 h;obtain⟨l,h2,h⟩:=bz.1 h;simp only[bJ]at h;subst h;obtain⟨v,k1,k2,k3⟩:=Xm R h1;obtain⟨vs,k4,k5,k6⟩:=Hg R h2;refine⟨v::vs,by simp only[List.mapM_cons,dc,k1,df,k4,eW],by simp[k5],λj z hz=> ?_⟩;grind
def Nk (R:Rel G L s μ tm w){fn:Func}{ys:List LV}(h:AK P s fn.results.toList=some ys):
 ∃v,(results fn tm).run P w= .ok v w/\LVR G w L s.lam.length (eB ys) v/\ ∀b,bZ (eB ys) v b-> ∃t,bZ (s.fr t) (tm.getD t undef) b:=by
 obtain⟨vs,h1,h2,h3⟩:=Hg R h;have hm:(fn.results.mapM (Er tm)).run P w= .ok vs.toArray w:=by rw[Array.mapM_eq_mapM_toList,Sem.run_map,h1];rfl
 have hrun:(results fn tm).run P w= .ok (if h:vs.toArray.size=1 then vs.toArray[0]else .tuple vs.toArray) w:=by
  unfold results;rw[dc];have e: ∀x:Sem (Array Value),x.run P w= .ok vs.toArray w->(x.run P w).andThen (λa w'=>Sem.run P (pure (if h:a.size=1 then a[0]else Value.tuple a)) w')=
   .ok (if h:vs.toArray.size=1 then vs.toArray[0]else .tuple vs.toArray) w:=λx hx=>by rw[hx];rfl
  exact e _ hm
 refine⟨_,hrun,?_⟩;by_cases hl:ys.length=1
 ·cases ys with
  |nil=>simp at hl|cons y r=>
   cases r with
   |cons=>simp at hl|nil=>
    cases vs with
    |nil=>simp at h2|cons v r=>
     cases r with|cons=>simp at h2|nil=>simpa[eB]using h3 0 y rfl
 ·have e:eB ys= .ltup (ys.map Go.Abs.strip1):=by
   cases ys with
   |nil=>rfl|cons t r=>
    cases r with|nil=>simp at hl|cons u r=>rfl
  rw[e,dif_neg (by simpa[h2]using hl)];refine⟨?_,λb hb=>by simp[bZ]at hb⟩;simp only[LVR];refine⟨_,rfl,?_⟩;simp only;clear e hl hrun hm h1 h
  induction ys generalizing vs with
  |nil=>cases vs<;>simp_all [dV]|cons y r ih=>
   cases vs with|nil=>simp at h2|cons v vs=>have h0:=h3 0 y rfl;simp only[List.getD_cons_zero]at h0;simp only[dQ,dV];refine⟨v,vs,rfl,(mA h0.1).2,(mA h0.1).1,ih vs (by simpa using h2) λj z hz=> ?_⟩;simpa using h3 (j+1) z (by simpa using hz)
def Rel.leave {G0:Gh}{w0:World}{T:Nat->Prop}(R:Rel G L s μ tm w)(E:Ext L T G0 w0 G w (bH G w s μ tm))(h0:G0.n L=0)(hgt: ∀l,L<l->G0.n l=0){vs:List LV}{tmr:Array Value}
 (hv: ∀j x,vs[j]? =some x->LVR (G.cut L) w L 0 x (tmr.getD j undef)) (ho: ∀j x b,vs[j]? =some x->bZ x (tmr.getD j undef) b->(∃t,bZ (s.fr t) (tm.getD t undef) b)/\j=0):
 Rel (G0.withO G.O) L (ck vs) μ tmr w/\Ext L T G0 w0 (G0.withO G.O) w (bH (G0.withO G.O) w (ck vs) μ tmr)/\Le (G.cut L) w (G0.withO G.O) w:=by
 have hμ:=R.lev;have hleC:Le (G.cut L) w (G0.withO G.O) w:=by
  refine⟨λ_ _ _ h hb=>⟨h,hb⟩,λlev i h=> ?_,λ_ _ _ h hc=>⟨h,hc⟩,λb cur e fz h=>⟨cur,fz,h,rfl⟩⟩;simp only[Gh.cut]at h;split at h
  ·rename_i hl;obtain⟨h1,h2⟩:=E.lev lev hl;simp only[Gh.withO,Gh.cut];exact⟨by rw[<-h2];exact h,(h1 i).1.symm,(h1 i).2.symm⟩
  ·omega
 have hβ: ∀lev i,lev<L->(G0.withO G.O).β lev i=G.β lev i/\(G0.withO G.O).sz lev i=G.sz lev i:=λlev i hl=>⟨((E.lev lev hl).1 i).1.symm,((E.lev lev hl).1 i).2.symm⟩;have hlive: ∀lev i,b6 (bP (μ++[(ck vs).lam]) lev i)->lev<L/\b6 (bP (μ++[s.lam]) lev i):=by intro lev i h;obtain⟨h1,h2⟩:=pO h;refine⟨bu,?_⟩;have h3:bP (μ++[s.lam]) lev i=b7 μ lev i:=cS h1;rw[h3,<-h2];exact h
 have hown: ∀q b,bF (G0.withO G.O) w (ck vs).fr tmr (μ++[(ck vs).lam]) q b->(∃t,q= .fr 0/\bF G w s.fr tm (μ++[s.lam]) (.fr t) b)\/(∃lev i k,q= .ob lev i k/\bF G w s.fr tm (μ++[s.lam]) q b):=by
  intro q b h;cases q with
  |fr t=>
   simp only[bF,eJ]at h;cases hx:vs[t]? with
   |none=>rw[hx]at h;simp[bZ]at h|some x=>rw[hx]at h;obtain⟨⟨u,hu⟩,rfl⟩:=ho t x b hx h;exact .inl ⟨u,rfl,hu⟩
  |ob lev i k=>have hl:=i8 h;obtain⟨h1,h2⟩:=pO hl;refine .inr ⟨lev,i,k,rfl,ja (fr':=(ck vs).fr) (tm':=tmr) ?_ (hβ lev i bu).1 rfl h⟩;rw[show bP (μ++[(ck vs).lam]) lev i=b7 μ lev i from h2];exact(cS h1).symm
 refine⟨⟨hμ,λt=> ?_,λi=> ?_,λlev i hl=> ?_,λlev i lev' i' h h' e=> ?_,λq q' b h h'=> ?_,λq b lev i h h' e=> ?_,λlev hl=> ?_,?_,hgt⟩,⟨⟨E.le.map,λlev i h=>⟨h,rfl,rfl⟩,E.le.imm,E.le.blk⟩,E.os,E.tape,E.output,E.size,E.keep,λb hb=>E.grow b ?_,λl hl=>⟨λ_=>⟨rfl,rfl⟩,rfl⟩⟩,hleC⟩
 ·rw[eJ];cases hx:vs[t]? with|none=>simp[LVR,VR]|some x=>have h1:=hv t x hx;refine B3 x _ (fw (L:=L) (nl:=0) hleC (cw _) (λi hi=>by omega) x _ (λb _=>⟨rfl,rfl⟩) h1)
 ·have:bQ (ck vs).lam i= .dead:=by simp[ck,bQ]
  rw[this];trivial
 ·rw[(hβ lev i hl).1,(hβ lev i hl).2];refine ey (G:=G.below lev) (G':=(G0.withO G.O).below lev) (w':=w) ⟨λ_ _ _ h hb=>⟨h,hb⟩,λl j hj=> ?_,λ_ _ _ h hc=>⟨h,hc⟩,λb cur e fz h=>⟨cur,fz,h,rfl⟩⟩ (cw _) (λ_ h=>by omega) (λ_=>⟨rfl,rfl⟩) (λ_ _ _ _ _ _ _ _ _ _ _=>⟨rfl,rfl⟩) (R.mu lev i hl);simp only[Gh.below,Gh.withO]at hj |-;split at hj
  ·rename_i hll;obtain⟨h1,h2⟩:=E.lev l bu;rw[bK hll];exact⟨by rw[<-h2];exact hj,(h1 j).1.symm,(h1 j).2.symm⟩
  ·omega
 ·have h1:=hlive lev i h;have h2:=hlive lev' i' h';rw[(hβ lev i h1.1).1,(hβ lev' i' h2.1).1]at e;exact R.inj lev i lev' i' h1.2 h2.2 e
 ·rcases hown q b h with⟨t,rfl,h1⟩|⟨lev,i,k,rfl,h1⟩<;>rcases hown q' b h' with⟨t',rfl,h1'⟩|⟨lev',i',k',rfl,h1'⟩
  ·rfl
  ·have:=R.own _ _ b h1 h1';cases this
  ·have:=R.own _ _ b h1 h1';cases this
  ·exact R.own _ _ b h1 h1'
 ·have h2:=hlive lev i h';rw[(hβ lev i h2.1).1]at e;rcases hown q b h with⟨t,rfl,h1⟩|⟨lev',i',k',rfl,h1⟩
  ·exact R.apart _ b lev i h1 h2.2 e
  ·exact R.apart _ b lev i h1 h2.2 e
 ·have:=(E.lev lev hl).2;rw[show (G0.withO G.O).n lev=G0.n lev from rfl,<-this];exact R.nlt lev hl
 ·simp only[ck,eD,dG];exact h0
 ·rcases hb with⟨q,hb⟩|⟨lev,i,hb,e⟩
  ·rcases hown q b hb with⟨t,rfl,h1⟩|⟨lev,i,k,rfl,h1⟩
   ·exact .inl ⟨_,h1⟩
   ·exact .inl ⟨_,h1⟩
  ·have h2:=hlive lev i hb;exact .inr ⟨lev,i,h2.2,by rw[<-(hβ lev i h2.1).1];exact e⟩
def ND (h0:G.n L=0)(hgt: ∀l,L<l->G.n l=0):Le G w (G.cut L) w:=by
 refine⟨λ_ _ _ h hb=>⟨h,hb⟩,λlev i h=>⟨?_,rfl,rfl⟩,λ_ _ _ h hc=>⟨h,hc⟩,λb cur e fz h=>⟨cur,fz,h,rfl⟩⟩;have hl:lev<L:=by grind
 simp only[Gh.cut,bK hl];exact h
def xK: ∀{l:List LV},jV l=true-> ∀x∈l,mr x=true
 |[],_,x,h=>by simp at h|y::r,hp,x,h=>by
  simp only[jV]at hp;split at hp<;>try(simp at hp;done)
  rcases eE.1 h with rfl|h
  ·assumption
  ·exact xK hp x h
def Wk {nl:Nat}{x:LV}{v:Value}(hf:mJ x=true)(hr:LVR G w L nl x v)(hb:(G.n L=0/\ ∀l,L<l->G.n l=0)\/fj L x=true):LVR (G.cut L) w L 0 x v:=by
 have one: ∀{x:LV} {v:Value},mr x=true->LVR G w L nl x v->((G.n L=0/\ ∀l,L<l->G.n l=0)\/qC L x=true)->LVR (G.cut L) w L 0 x v:=by
  intro x v hp hr hb;cases x<;>simp only[mr,eD]at hp<;>simp only[LVR]at hr |-
  ·rcases hb with⟨h0,hgt⟩|hb
   ·exact cZ (ND h0 hgt) _ _ hr
   ·exact gV _ _ hb hr
  ·rcases hb with⟨h0,hgt⟩|hb
   ·exact oy (ND h0 hgt) (λ_ _ _ _=>⟨rfl,rfl⟩) hr
   ·exact Gr hb hr
 unfold mJ at hf;split at hf
 ·exact one rfl hr (hb.imp id (λh=>h))
 ·exact one rfl hr (hb.imp id (λh=>h))
 ·rename_i xs;simp only[LVR]at hr |-;obtain⟨vs,e,hl⟩:=hr;refine⟨vs,e,?_⟩;have hb':(G.n L=0/\ ∀l,L<l->G.n l=0)\/ ∀x∈xs,qC L x=true:=hb.imp id λh=>by simpa[fj]using h
  have hm:=xK hf;clear hb hf e;generalize vs.toList=l at hl
  induction xs generalizing l with|nil=>simpa[dV]using hl|cons x xs ih=>simp only[dV]at hl |-;grind
 ·simp at hf
def Rel.retm (R:Rel G L s μ tm w){tm':Array Value}(hf: ∀t,s.fr t= .cv .undef\/tm'.getD t undef=tm.getD t undef):
 Rel G L s μ tm' w/\ ∀q b,bF G w s.fr tm' (μ++[s.lam]) q b↔bF G w s.fr tm (μ++[s.lam]) q b:=by
 have hown: ∀q b,bF G w s.fr tm' (μ++[s.lam]) q b↔bF G w s.fr tm (μ++[s.lam]) q b:=by
  intro q b;cases q with
  |fr t=>
   simp only[bF];rcases hf t with h|h
   ·rw[h];simp[bZ]
   ·rw[h]
  |ob lev i k=>exact ov
 refine⟨⟨R.lev,λt=> ?_,R.lam,R.mu,R.inj,λl l' b h h'=>R.own l l' b ((hown l b).1 h) ((hown l' b).1 h'),λl b lev i h h'=>R.apart l b lev i ((hown l b).1 h) h',R.nlt,R.nL,R.ngt⟩,hown⟩;rcases hf t with h|h
 ·rw[h];simp[LVR,VR]
 ·rw[h];exact R.fr t
def y6 {fn:Func}{G0:Gh}{w0:World}{T:Nat->Prop}{out:Out}(hfk:kx P fn.results.toList s μ=some out)(R':Rel G L s μ tm w)(E':Ext L T G0 w0 G w (bH G w s μ tm))
 (h0:G0.n L=0) (hgt: ∀l,L<l->G0.n l=0): ∃v,(results fn tm).run P w= .ok v w/\jE L T G0 w0 out (.returned v) w:=by
 unfold kx at hfk;obtain⟨ys,hys,hfk⟩:=bz.1 hfk;dsimp only at hfk;obtain⟨hfl,hfk⟩:=bM.1 hfk;obtain⟨v,hv1,hr1,hr2⟩:=Nk R' hys;have hout:out= .ret (eB ys) μ/\((G.n L=0/\ ∀l,L<l->G.n l=0)\/fj L (eB ys)=true):=by
  split at hfk
  ·rename_i hp;simp only[bJ]at hfk;refine⟨hfk.symm,.inl ⟨?_,R'.ngt⟩⟩;have:=R'.nL;simp_all
  ·obtain⟨hbl,hfk⟩:=bM.1 hfk;simp only[bJ]at hfk;rw[R'.lev]at hbl;simp_all
 obtain⟨rfl,hbel⟩:=hout;refine⟨v,hv1,?_⟩
 obtain ⟨R3, E3, _⟩ := R'.leave (vs := [eB ys]) (tmr := #[v]) E' h0 hgt (λj x hx => by
  cases j with
  |zero=>simp only[eu,bJ]at hx;subst hx;exact Wk hfl hr1 hbel
  |succ j=>simp at hx) (λj x b hx hob=>by
  cases j with
  |zero=>simp only[eu,bJ]at hx;subst hx;exact⟨hr2 b hob,rfl⟩
  |succ j=>simp at hx)
 exact⟨_,R3,E3⟩
def Lt (hm:P.follows .mixedOrders=true)(hrho:gN P W0 ρ)(hloop:pt P W0 ρ)(hseg:sx P W0 ρ){H:Hints}{f:FuncId}{fn:Func}{c:Code}{args:List LV}{out:Out}(hf:P.funcs[f]? =some fn)(hb:fn.body=some c)
 (h:HP P ρ H fn c args μ=some out):fk P W0 f args μ out:=by
 unfold HP at h;obtain⟨hg,h⟩:=bM.1 h;simp only[cM,jv]at hg;obtain⟨⟨hg1,hg2⟩,hg3⟩:=hg;have hg1:=fO hg1;refine⟨⟨fn,c,hf,hb,hg3⟩,λG w cargs hsz R hkn=> ?_⟩;refine calls_of_wp hf hb ?_;have hsize:(cargs++Array.replicate (fn.ntmps-cargs.size) undef).size=fn.ntmps:=cr;obtain⟨R1,hO⟩:=R.retm (tm':=cargs++Array.replicate (fn.ntmps-cargs.size) undef) λt=>by
  by_cases ht:t<cargs.size
  ·right;simp[d7,ES ht]
  ·left;rw[eJ,fq bu];rfl
 have h0:G.n μ.length=0:=by simpa[ck]using R.nL
 refine gb hm hrho hloop hseg (L:=μ.length) (T:=bH G w (ck args) μ cargs) (G0:=G) (w0:=w) (n:=fn.ntmps) (ds:=⟨[],none⟩) c hg2 hkn h ⟨R1,Ext.refl G w λb hb=> ?_,hsize,⟨rfl,λ_ _ e=>by cases e⟩,h0⟩ ?_
 ·rcases hb with⟨q,hb⟩|hb
  ·exact .inl ⟨q,(hO q b).1 hb⟩
  ·exact .inr hb
 ·have fin: ∀(s':S) (μ':Mu) (a':Act) (w':World) (G':Gh),kx P fn.results.toList s' μ'=some out->lS μ.length (bH G w (ck args) μ cargs) G w fn.ntmps ⟨[],none⟩ s' μ' a' w' G'->
   a'.defers=[]/\ ∃v,(results fn a'.tmps).run P w'= .ok v w'/\jE μ.length (bH G w (ck args) μ cargs) G w out (.returned v) w':=by
   intro s' μ' a' w' G' hfk hs;obtain⟨R',E',_,hds,_⟩:=hs;obtain⟨v,h1,h2⟩:=y6 hfk R' E' h0 R.ngt;exact⟨hds.1,v,h1,h2⟩
  intro st e a' w' hst hr;cases st with
  |norm s' μ'=>cases e<;>simp only[StR]at hr;obtain⟨G',hs⟩:=hr;exact fin s' μ' a' w' G' hst hs
  |ret s' μ'=>cases e<;>simp only[StR]at hr;obtain⟨G',hs⟩:=hr;exact fin s' μ' a' w' G' hst hs
  |exit i s' μ'=>simp at hst|panic v s' μ'=>cases e<;>simp only[StR]at hr;obtain⟨G',pv,rfl,hv,R',E',_,hds,_⟩:=hr;obtain⟨hbl,hst⟩:=bM.1 hst;simp only[bJ]at hst;subst hst;rw[R'.lev]at hbl;refine⟨hds.1,?_⟩;obtain⟨R3,E3,hle⟩:=R'.leave (vs:=[]) (tmr:= #[]) E' h0 R.ngt (λj x hx=>by simp at hx) (λj x b hx=>by simp at hx);exact⟨_,pv,rfl,cZ hle _ _ (gV _ _ hbl hv),R3,E3⟩
end
end Go.Abs
