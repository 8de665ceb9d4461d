/-
  The statement ExprTokensCardSaid, proved; part 4 of 11 of its proof.
-/
import Derived.Test.YtmemoghbijcebaaGreatDoorT2
set_option linter.all false
namespace Go.Abs
open Go
section
variable {P:Program}{ρ:Rho}{h:OpHint}{o:Oper}{s t s':S}{μ ν μ':Mu}{v:LV}
def KE (x:LV):strip1 (strip1 x)=strip1 x:=by cases x<;>rfl
def Ef (x:LV):strip (strip x)=strip x:=by cases x<;>first|rfl|(simp only[strip,List.map_map];congr 1;exact xB λx _=>KE x)
inductive SameOb:Ob->Ob->Prop where
 |refl (o:Ob):SameOb o o|cells {cs ds:List LV}:cs.map strip=ds.map strip->SameOb (.cells cs) (.cells ds)
section
variable {P:Program}
def SameOb.symm {a b:Ob}(h:SameOb a b):SameOb b a:=by
 cases h with|refl=>exact .refl _|cells e=>exact .cells e.symm
def SameOb.live {a b:Ob}(h:SameOb a b)(hl:b8 b):b8 a:=by
 cases h with|refl=>exact hl|cells e=>trivial
def PO (x:LV):cW (strip x)=cW x:=by cases x<;>rfl
def wo: ∀(l:List LV),oE (l.map strip)=oE l
 |[]=>rfl|x::r=>by simp only[dr,oE,PO,wo r]
def SameOb.read {a b:Ob}(h:SameOb a b)(t:TypeId)(off:Nat):cw P t b off=cw P t a off:=by
 cases h with
 |refl=>rfl| @cells cs ds e=>
  unfold cw;congr;funext _;have hl:cs.length=ds.length:=by simpa using mE List.length e
  simp only[tQ];cases dN P t with
  |true=>
   dsimp only;congr;funext n;rw[hl];have:oE ((ds.drop off).take n)=oE ((cs.drop off).take n):=by rw[<-wo,<-wo ((cs.drop off).take n),Uz,Uz,List.map_drop,List.map_drop,e]
   rw[this]
  |false=>
   have:(ds[off]?).map strip=(cs[off]?).map strip:=by rw[<-gM,<-gM,e]
   grind
end
def gV (k:Kind)(s t:S)(μ ν:Mu):Prop:=
 match k with
 | .plain=>True| .rd=> ∀i,b8 (bU s.lam i)->SameOb (bU s.lam i) (bU t.lam i)| .tk=>t.lam=s.lam| .wr=>t.lam=s.lam| .ap=>t.lam.length=s.lam.length| .look=>(∀lev i,b8 (ce μ lev i)->SameOb (ce μ lev i) (ce ν lev i))/\t.pushed=s.pushed| .tku=>ν=μ/\t.pushed=s.pushed| .ou=>ν=μ/\t.pushed=s.pushed| .all=>t.lam=s.lam/\t.pushed=s.pushed/\ν=μ
def Eff (P:Program)(ρ:Rho)(h:OpHint)(o:Oper)(k:Kind)(s t:S)(μ ν:Mu)(v:LV)(s':S)(μ':Mu):Prop:=
 match k with
 | .plain=>s'=bz h.take s/\μ'=μ/\cP P ρ h o t ν=some (v,bz h.take t,ν)| .rd=>s'=bz h.take s/\μ'=μ/\cP P ρ h o t ν=some (v,bz h.take t,ν)| .tk=> ∃lam',s'={bz h.take s with lam:=lam'}/\μ'=μ/\(∀i,SameOb (bU s.lam i) (bU lam' i))/\t.lam=s.lam/\cP P ρ h o t ν=some (v,{bz h.take t with lam:=lam'},ν)| .wr=> ∃lam',s'={bz h.take s with lam:=lam'}/\μ'=μ/\cP P ρ h o t ν=some (v,{bz h.take t with lam:=lam'},ν)| .ap=> ∃ob,s'={bz h.take s with lam:=s.lam++[ob]}/\μ'=μ/\cP P ρ h o t ν=some (v,{bz h.take t with lam:=t.lam++[ob]},ν)| .look=>s'=bz h.take s/\μ'=μ/\cP P ρ h o t ν=some (v,bz h.take t,ν)| .tku=>s'=bz h.take s/\(∀lev i,SameOb (ce μ lev i) (ce μ' lev i))/\ν=μ/\cP P ρ h o t ν=some (v,bz h.take t,μ')| .ou=>s'=bz h.take s/\cP P ρ h o t ν=some (v,bz h.take t,μ')| .all=>s'.fr=(bz h.take s).fr/\cP P ρ h o t ν=some (v,{s' with fr:=(bz h.take t).fr},μ')
def Ag.self:Ag h o s s:=λ_ _=>rfl
def YW (hp: ∀t ν,Ag h o s t->eC P ρ h o s t μ ν)(ha:Ag h o s t)(hst:cP P ρ h o s μ=some (v,s',μ')):Eff P ρ h o .plain s t μ ν v s' μ':=by have h1:=hp s μ Ag.self;have h2:=hp t ν ha;unfold eC at h1 h2;rw[hst,cD]at h1 h2;simp only[bP,dB,jW]at h1;exact⟨h1.1,h1.2,h2⟩
def D6 {ty:TypeId}{ob:Ob}{off:Nat}{w:LV}(h:cw P ty ob off=some w):b8 ob:=by unfold cw at h;obtain⟨_,_,h⟩:=bA.1 h;cases ob<;>first|trivial|simp[tQ]at h
def Kl {ty:TypeId}{l:Lam}{i off:Nat}{q:LV×Ob}(h:jl P ty (bU l i) off=some q)(j:Nat):SameOb (bU l j) (bU (l.set i q.2) j):=by
 unfold jl at h;obtain⟨_,_,h⟩:=bA.1 h;split at h<;>try(cases h;done)
 split at h<;>try(cases h;done)
 rename_i cs hcs;split at h<;>try(cases h;done)
 rename_i x hx;simp only[bP]at h;subst h;have hi:i<l.length:=lO (by rw[hcs];trivial);rw[sb hi];split
 ·rename_i e;subst e;rw[hcs];refine .cells ?_;rw[List.map_set];apply List.ext_getElem?;intro k;by_cases hk:k=off
  ·subst hk;have hlt:k<cs.length:=(dP.1 hx).1;rw[uY (by simpa using hlt),gM,hx,Ef];rfl
  grind
 ·exact .refl _
def PW {ty:TypeId}{μ:Mu}{lv ix off:Nat}{q:LV×Ob}(h:jl P ty (ce μ lv ix) off=some q)(lev i:Nat):SameOb (ce μ lev i) (ce (cx μ lv ix q.2) lev i):=by
 have hl:b8 (ce μ lv ix):=by
  unfold jl at h;obtain⟨_,_,h⟩:=bA.1 h;split at h<;>try(cases h;done)
  split at h<;>try(cases h;done)
  rename_i cs hcs;rw[hcs];trivial
 rw[zd hl];split
 ·rename_i e;obtain⟨rfl,rfl⟩:=e;have:=Kl (l:=[ce μ lev i]) (i:=0) (q:=q) (off:=off) (ty:=ty) (by simpa[bU]using h) 0;simpa[bU]using this
 ·exact .refl _
def ab0 {ty:TypeId}{x:Operand}(ho:o.op= .load ty x)(ha:Ag h o s t)(hc:gV (cL h o) s t μ ν)(hst:cP P ρ h o s μ=some (v,s',μ')):Eff P ρ h o (cL h o) s t μ ν v s' μ':=by
 have e:=ha x (by simp[ho,Op.operands]);have l1:=cq h.take s;have l2:=cq h.take t;have hs1:cP P ρ h o s μ=ke P h ty (evA h s.fr x) (bz h.take s) μ λv s μ=>some (v,s,μ):=by simp only[cP,ep,ho]
 have ht1:cP P ρ h o t ν=ke P h ty (evA h s.fr x) (bz h.take t) ν λv s μ=>some (v,s,μ):=by simp only[cP,ep,ho,e]
 rw[hs1]at hst;unfold Eff;rw[ht1];clear hs1 ht1 e ha;simp only[cL,ho]at hc |-;unfold ke at hst |-;generalize evA h s.fr x=q at hst |-;cases hou:h.outer with
 |false=>
  simp only[hou]at hc hst |-;cases hce:h.cell with
  |false=>
   simp only[hce,gV]at hc hst |-;cases q with
   |loc i off=>
    dsimp only at hst |-;obtain⟨w,h1,h2⟩:=bA.1 hst;obtain⟨y,h3,_⟩:=zX h2;simp only[bP,dB]at h3;obtain⟨rfl,rfl,rfl⟩:=h3;refine⟨rfl,rfl,bA.2 ⟨w,?_,?_⟩⟩
    ·rw[l1.1]at h1;rw[l2.1,(hc i (D6 h1)).read];exact h1
    ·have:(pf P h.arr ty w λv=>some (v,bz h.take t,ν))=opt (pf P h.arr ty w λv=>some (v,bz h.take s,μ)) λq=>some (q.1,bz h.take t,ν):=by rw[DN];rfl
     rw[this,h2];rfl
   |cv c=>dsimp only at hst |-;obtain⟨cs,h1,h2⟩:=bA.1 hst;obtain⟨c',h3,h4⟩:=bA.1 h2;simp only[bP,dB]at h4;obtain⟨rfl,rfl,rfl⟩:=h4;exact⟨rfl,rfl,bA.2 ⟨cs,h1,bA.2 ⟨c',h3,rfl⟩⟩⟩
   |osl _=>cases hst|lsl _ _ _=>cases hst|lclo _ _=>cases hst|mloc _=>cases hst|tloc _ _ _=>cases hst|ost _=>cases hst|stl _=>cases hst|ltup _=>cases hst
  |true=>
   simp only[hce,gV]at hc hst |-;cases q with
   |loc i off=>
    dsimp only at hst |-;obtain⟨w,h1,h2⟩:=bA.1 hst;simp only[bP,dB]at h2;obtain⟨rfl,rfl,rfl⟩:=h2;refine⟨_,rfl,rfl,λj=> ?_,hc,bA.2 ⟨w,?_,?_⟩⟩
    ·rw[l1.1]at h1 |-;exact Kl h1 j
    ·rw[l2.1,hc,<-l1.1];exact h1
    ·rw[l2.1,hc,<-l1.1]
   |cv c=>dsimp only at hst |-;obtain⟨cs,h1,h2⟩:=bA.1 hst;obtain⟨c',h3,h4⟩:=bA.1 h2;simp only[bP,dB]at h4;obtain⟨rfl,rfl,rfl⟩:=h4;refine⟨s.lam,by rw[<-l1.1],rfl,λ_=> .refl _,hc,bA.2 ⟨cs,h1,bA.2 ⟨c',h3,?_⟩⟩⟩;rw[<-hc,<-l2.1]
   |osl _=>cases hst|lsl _ _ _=>cases hst|lclo _ _=>cases hst|mloc _=>cases hst|tloc _ _ _=>cases hst|ost _=>cases hst|stl _=>cases hst|ltup _=>cases hst
 |true=>
  simp only[hou]at hst hc |-;cases q with
  |cv c=>
   dsimp only at hst |-;obtain⟨q,h1,hst⟩:=bA.1 hst;have key: ∀{own:Bool} {w:LV} {m m':Mu},(fq P own ty w λv=>some (v,bz h.take s,m))=some (v,s',μ')->s'=bz h.take s/\μ'=m/\(fq P own ty w λv=>some (v,bz h.take t,m'))=some (v,bz h.take t,m'):=by
    intro own w m m' hk;obtain⟨y,h3,_⟩:=j4 hk;simp only[bP,dB]at h3;refine⟨h3.2.1.symm,h3.2.2.symm,?_⟩;have:(fq P own ty w λv=>some (v,bz h.take t,m'))=opt (fq P own ty w λv=>some (v,bz h.take s,m)) λq=>some (q.1,bz h.take t,m'):=by rw[kK];rfl
    rw[this,hk];rfl
   cases hce:h.cell with
   |false=>simp only[hce,gV]at hst hc |-;obtain⟨hsame,hpu⟩:=hc;obtain⟨w,h2,hst⟩:=bA.1 hst;obtain⟨e1,e2,h4⟩:=key (m':=ν) hst;refine⟨e1,e2,bA.2 ⟨q,h1,bA.2 ⟨w,?_,h4⟩⟩⟩;rw[(hsame _ _ (D6 h2)).read];exact h2
   |true=>
    simp only[hce,gV]at hst hc |-;obtain⟨rfl,hpu⟩:=hc;obtain⟨w,h2,hst⟩:=bA.1 hst;obtain⟨e1,e2,h4⟩:=key (m':=μ') hst;refine⟨e1,λlev i=> ?_,rfl,bA.2 ⟨q,h1,bA.2 ⟨w,h2,?_⟩⟩⟩
    ·rw[e2];exact PW h2 lev i
    simp_all
  |loc i off=>cases hst|osl _=>cases hst|lsl _ _ _=>cases hst|lclo _ _=>cases hst|mloc _=>cases hst|tloc _ _ _=>cases hst|ost _=>cases hst|stl _=>cases hst|ltup _=>cases hst
def YX {ty:TypeId}{x y:Operand}(ho:o.op= .store ty x y)(ha:Ag h o s t)(hc:gV (cL h o) s t μ ν)(hst:cP P ρ h o s μ=some (v,s',μ')):Eff P ρ h o (cL h o) s t μ ν v s' μ':=by
 have e1:=ha x (by simp[ho,Op.operands]);have e2:=ha y (by simp[ho,Op.operands]);have l1:=cq h.take s;have l2:=cq h.take t;have hs1:cP P ρ h o s μ=mb P h ty (evA h s.fr x) (evA h s.fr y) (bz h.take s) μ λv s μ=>some (v,s,μ):=by simp only[cP,ep,ho]
 have ht1:cP P ρ h o t ν=mb P h ty (evA h s.fr x) (evA h s.fr y) (bz h.take t) ν λv s μ=>some (v,s,μ):=by simp only[cP,ep,ho,e1,e2]
 rw[hs1]at hst;unfold Eff;rw[ht1];clear hs1 ht1 e1 e2 ha;simp only[cL,ho]at hc |-;unfold mb at hst |-;generalize evA h s.fr x=q at hst |-;generalize evA h s.fr y=u at hst |-;cases hou:h.outer with
 |false=>
  simp only[hou,gV]at hc hst |-;cases q with
  |loc i off=>
   dsimp only at hst |-;rw[rt]at hst |-;obtain⟨w,h1,h2⟩:=bA.1 hst;simp only[bP,dB]at h2;obtain⟨rfl,rfl,rfl⟩:=h2;refine⟨_,rfl,rfl,bA.2 ⟨w,?_,?_⟩⟩
   all_goals simp_all
  |cv c=>cases hst|osl _=>cases hst|lsl _ _ _=>cases hst|lclo _ _=>cases hst|mloc _=>cases hst|tloc _ _ _=>cases hst|ost _=>cases hst|stl _=>cases hst|ltup _=>cases hst
 |true=>
  simp only[hou,gV]at hc hst |-;obtain⟨rfl,hpu⟩:=hc;cases q with
  |cv c=>dsimp only at hst |-;obtain⟨q,h1,h2⟩:=bA.1 hst;obtain⟨h3,h4⟩:=bR.1 h2;obtain⟨w,h5,h6⟩:=bA.1 h4;simp only[bP,dB]at h6;obtain⟨rfl,rfl,rfl⟩:=h6;exact⟨rfl,bA.2 ⟨q,h1,bR.2 ⟨h3,bA.2 ⟨w,h5,rfl⟩⟩⟩⟩
  |loc i off=>cases hst|osl _=>cases hst|lsl _ _ _=>cases hst|lclo _ _=>cases hst|mloc _=>cases hst|tloc _ _ _=>cases hst|ost _=>cases hst|stl _=>cases hst|ltup _=>cases hst
def YV {ty:TypeId}(ho:o.op= .alloc ty)(hc:gV (cL h o) s t μ ν)(hst:cP P ρ h o s μ=some (v,s',μ')):Eff P ρ h o (cL h o) s t μ ν v s' μ':=by have l1:=cq h.take s;have l2:=cq h.take t;simp only[cL,ho,gV]at hc;simp only[cL,ho,Eff];simp only[cP,ep,ho]at hst |-;obtain⟨w,h1,h2⟩:=bA.1 hst;simp only[bP,dB]at h2;obtain⟨rfl,rfl,rfl⟩:=h2;refine⟨_,by rw[l1.1],rfl,bA.2 ⟨w,h1,?_⟩⟩;simp_all
def aeQ {ty:TypeId}{x:Operand}(ho:o.op= .box ty x)(hr:h.cell=false)(ha:Ag h o s t)(hc:gV (cL h o) s t μ ν)(hst:cP P ρ h o s μ=some (v,s',μ')):Eff P ρ h o (cL h o) s t μ ν v s' μ':=by have e:=ha x (by simp[ho,Op.operands]);have l1:=cq h.take s;have l2:=cq h.take t;simp only[cL,ho,hr,gV]at hc;simp only[cL,ho,hr,Eff];simp only[cP,ep,ho,hr,pM,e]at hst |-;obtain⟨w,h1,h2⟩:=bA.1 hst;simp only[bP,dB]at h2;obtain⟨rfl,rfl,rfl⟩:=h2;refine⟨_,by rw[l1.1],rfl,bA.2 ⟨w,h1,?_⟩⟩;simp_all
def Ik {ty:TypeId}{len:Nat}{parts:Array (Nat×Operand)}(ho:o.op= .buildSlice ty len parts)(hr:h.arr=true)(ha:Ag h o s t)(hc:gV (cL h o) s t μ ν)(hst:cP P ρ h o s μ=some (v,s',μ')):Eff P ρ h o (cL h o) s t μ ν v s' μ':=by
 have e: ∀b sz,sT b sz (evA h t.fr) 0 parts.toList=sT b sz (evA h s.fr) 0 parts.toList:=λb sz=>y9 λq hq=>ha q.2 (by simp only[ho,Op.operands];simp;exact⟨q.1,by simpa using hq⟩);have l1:=cq h.take s;have l2:=cq h.take t;simp only[cL,ho,hr,gV]at hc;simp only[cL,ho,hr,Eff];simp only[cP,ep,ho,tP,e,hr]at hst |-;split at hst<;>try(cases hst;done)
 obtain⟨sz,h1,hst⟩:=bA.1 hst;obtain⟨h2,hst⟩:=bR.1 hst;obtain⟨z,h3,hst⟩:=bA.1 hst;obtain⟨xs,h5,hst⟩:=bA.1 hst;obtain⟨h6,hst⟩:=bR.1 hst;obtain⟨h7,hst⟩:=bR.1 hst;simp only[bP,dB]at hst;obtain⟨rfl,rfl,rfl⟩:=hst;refine⟨_,by rw[l1.1],rfl,bA.2 ⟨sz,h1,bR.2 ⟨h2,bA.2 ⟨z,h3,bA.2 ⟨xs,h5,bR.2 ⟨h6,bR.2 ⟨h7,?_⟩⟩⟩⟩⟩⟩⟩;simp_all
def Id {β:Type}{src dst:TypeId}{q:LV}{f:LV->S->Mu->Option β}(hr:h.arr=false)(hq: ∀id off len,q≠ .lsl id off len):
 gb P h src dst q t ν f=gb P h src dst q s μ λv _ _=>f v t ν:=by
 unfold gb;simp only[hr]
def PI {src dst:TypeId}{x:Operand}(ho:o.op= .convert src dst x)(hr:h.arr=false)(ha:Ag h o s t)(hc:gV (cL h o) s t μ ν)(hst:cP P ρ h o s μ=some (v,s',μ')):Eff P ρ h o (cL h o) s t μ ν v s' μ':=by
 have e:=ha x (by simp[ho,Op.operands]);have l1:=cq h.take s;have l2:=cq h.take t;have hs1:cP P ρ h o s μ=gb P h src dst (evA h s.fr x) (bz h.take s) μ λv s μ=>some (v,s,μ):=by simp only[cP,ep,ho]
 have ht1:cP P ρ h o t ν=gb P h src dst (evA h s.fr x) (bz h.take t) ν λv s μ=>some (v,s,μ):=by simp only[cP,ep,ho,e]
 rw[hs1]at hst;unfold Eff;rw[ht1];clear hs1 ht1 e ha;simp only[cL,ho,hr,gV]at hc |-;generalize evA h s.fr x=q at hst |-;by_cases hq: ∀id off len,q≠ .lsl id off len
 ·have key: ∀(t:S) (ν:Mu),(gb P h src dst q t ν λv s μ=>some (v,s,μ))=opt (gb P h src dst q (bz h.take s) μ λv s μ=>some (v,s,μ)) λa=>some (a.1,t,ν):=by intro t ν;rw[BN];exact Id hr hq
  have h1:=key (bz h.take s) μ;rw[hst,cD]at h1;simp only[bP,dB,jW]at h1;refine⟨h1.1,h1.2,?_⟩;rw[key,hst];rfl
 ·obtain⟨id,off,len,rfl⟩: ∃id off len,q= .lsl id off len:=by cases q<;>first|exact⟨_,_,_,rfl⟩|(exfalso;apply hq;intro _ _ _ hh;cases hh)
  unfold gb at hst |-;simp only[hr]at hst |-;split at hst
  ·split at hst<;>cases hst
  ·rename_i hu;split at hst
   ·cases hst
   ·rename_i e' hu';split at hst<;>try(cases hst;done)
    rename_i hue;split at hst<;>try(cases hst;done)
    rename_i sz cs hob;obtain⟨h1,hst⟩:=bR.1 hst;obtain⟨l,h2,hst⟩:=bA.1 hst;simp only[bP,dB]at hst;obtain⟨rfl,rfl,rfl⟩:=hst;rw[l1.1]at hob;have hob2:bU (bz h.take t).lam id= .arr sz cs:=by have hc2:=hc id (by rw[hob];trivial);rw[hob]at hc2;rw[l2.1];generalize bU t.lam id=q at hc2 |-;cases hc2;rfl
    refine⟨rfl,rfl,?_⟩;simp only[hob2];exact bR.2 ⟨h1,bA.2 ⟨l,h2,rfl⟩⟩
   ·cases hst
  ·split at hst
   ·split at hst<;>cases hst
   ·cases hst
  ·cases hst
def abZ {c:Call}{fx:Operand}(ho:o.op= .call c)(hc0:c.callee= .value fx)(hp:h.push=false)(ha:Ag h o s t)(hc:gV (cL h o) s t μ ν)(hst:cP P ρ h o s μ=some (v,s',μ')):Eff P ρ h o (cL h o) s t μ ν v s' μ':=by
 have e1:=ha fx (by simp[ho,Op.operands,Call.operands,hc0]);have em:c.args.toList.map (evA h t.fr)=c.args.toList.map (evA h s.fr):=xB λx hx=>ha x (by simp[ho,Op.operands,Call.operands,hc0];right;simpa using hx);have l1:=cq h.take s;have l2:=cq h.take t;simp only[cL,ho,hc0,hp,gV]at hc;simp only[cL,ho,hc0,hp,Eff];obtain⟨rfl,hpu⟩:=hc;have key: ∀(f:FuncId) (args:List LV),(io P ρ h o.type f args (bz h.take s) ν (λv s μ=>some (v,s,μ)) λ_ _ _=>none)=some (v,s',μ')->
  s'=bz h.take s/\(io P ρ h o.type f args (bz h.take t) ν (λv s μ=>some (v,s,μ)) λ_ _ _=>none)=some (v,bz h.take t,μ'):=by
  intro f args hk;unfold io at hk |-;simp only[hp]at hk |-;obtain⟨h1,hk⟩:=bR.1 hk;have h1':(!(bz h.take t).pushed&&kM args)=true:=by rw[l2.2,hpu,<-l1.2];exact h1
  unfold callK at hk;obtain⟨out,h2,hk⟩:=bA.1 hk;cases out with
  |panic pv m=>cases hk|ret rv m=>
   dsimp only at hk;obtain⟨y,h3,_⟩:=j4 hk;simp only[bP,dB]at h3;refine⟨h3.2.1.symm,bR.2 ⟨h1',?_⟩⟩;unfold callK;refine bA.2 ⟨.ret rv m,h2,?_⟩;dsimp only;have:(fq P h.own o.type rv λv=>some (v,bz h.take t,m))=opt (fq P h.own o.type rv λv=>some (v,bz h.take s,m)) λq=>some (q.1,bz h.take t,q.2.2):=by rw[kK];rfl
   rw[this,hk];rfl
 simp only[cP,ep,ho,hc0,e1,em]at hst |-;obtain⟨h1,hst⟩:=bR.1 hst;revert hst;generalize evA h s.fr fx=q;intro hst;cases q with
 |cv cc=>
  cases cc with
  |clo f caps=>obtain⟨k1,k2⟩:=key _ _ hst;exact⟨k1,bR.2 ⟨h1,k2⟩⟩
  |_=>cases hst
 |lclo f caps=>obtain⟨k1,k2⟩:=key _ _ hst;exact⟨k1,bR.2 ⟨h1,k2⟩⟩
 |_=>cases hst
end
section
variable {P:Program}{ρ:Rho}{h:OpHint}{o:Oper}{s t s':S}{μ ν μ':Mu}{v:LV}
def abe (ha:Ag h o s t)(hc:gV (cL h o) s t μ ν)(hk:cL h o≠ .all)(hst:cP P ρ h o s μ=some (v,s',μ')):Eff P ρ h o (cL h o) s t μ ν v s' μ':=by
 have pl:cL h o= .plain->(∀t ν,Ag h o s t->eC P ρ h o s t μ ν)->Eff P ρ h o (cL h o) s t μ ν v s' μ':=λe hp=>by rw[e];exact YW hp ha hst
 cases ho:o.op with
 |move x=>exact pl (by simp[cL,ho]) λt ν ha=>Ug (.inl ho) ha|assign x=>exact pl (by simp[cL,ho]) λt ν ha=>Ug (.inr ho) ha|pick c x y=>exact pl (by simp[cL,ho]) λt ν ha=>afG ho ha|alloc ty=>exact YV ho hc hst|box ty x=>
  cases hr:h.cell with|false=>exact aeQ ho hr ha hc hst|true=>exact pl (by simp[cL,ho,hr]) λt ν ha=>afF ho hr ha
 |build ty ps=>exact pl (by simp[cL,ho]) λt ν ha=>ac4 ho ha|buildSlice ty len ps=>
  cases hr:h.arr with|true=>exact Ik ho hr ha hc hst|false=>exact pl (by simp[cL,ho,hr]) λt ν ha=>KC ho hr ha
 |load ty x=>exact ab0 ho ha hc hst|store ty x y=>exact YX ho ha hc hst|nilCheck x=>exact pl (by simp[cL,ho]) λt ν ha=>RH ho ha|binOp op ty x y ty'=>exact pl (by simp[cL,ho]) λt ν ha=>ac3 ho ha|unOp op ty x=>exact pl (by simp[cL,ho]) λt ν ha=>afH ho ha|convert src dst x=>
  cases hr:h.arr with|true=>exact absurd (by simp[cL,ho,hr]) hk|false=>exact PI ho hr ha hc hst
 |makeInterface ty x=>exact pl (by simp[cL,ho]) λt ν ha=>Fy ho ha|makeFunc fn first captured=>exact pl (by simp[cL,ho]) λt ν ha=>RG ho ha
 |slice ty x lo hi mx=>exact pl (by simp[cL,ho]) λt ν ha=>ac7 ho ha|fieldAddr ty x f=>exact pl (by simp[cL,ho]) λt ν ha=>ON ho ha|field ty x f=>exact pl (by simp[cL,ho]) λt ν ha=>ac5 ho ha|indexAddr ty x y=>exact pl (by simp[cL,ho]) λt ν ha=>OO ho ha|index ty x y=>exact pl (by simp[cL,ho]) λt ν ha=>ac6 ho ha|extract x i=>exact pl (by simp[cL,ho]) λt ν ha=>WI ho ha|panic x=>exact absurd (by simp[cL,ho]) hk|typeAssert x xt ty ok=>exact absurd (by simp[cL,ho]) hk|makeMap ty x=>exact absurd (by simp[cL,ho]) hk|makeSlice ty x y=>exact absurd (by simp[cL,ho]) hk|insert ty m x y=>exact absurd (by simp[cL,ho]) hk|mapUpdate ty m x y=>exact absurd (by simp[cL,ho]) hk|lookup ty m x ok=>exact absurd (by simp[cL,ho]) hk|call c=>
  cases hc0:c.callee with
  |builtin b=>
   by_cases hb:b= .copy
   ·subst hb;exact absurd (by simp[cL,ho,hc0]) hk
   ·exact pl (by simp only[cL,ho,hc0]) λt ν ha=>WH ho hc0 hb ha
  |value fx=>
   cases hp:h.push with|true=>exact absurd (by simp[cL,ho,hc0,hp]) hk|false=>exact abZ ho hc0 hp ha hc hst
  |invoke r m=>simp[cP,ep,ho,hc0]at hst
 |_=>simp[cP,ep,ho]at hst
end
def gp (P:Program)(ρ:Rho)(H:Hints)(rg:Nat)(ops:Array Oper)(i:Nat)(s:S)(μ:Mu):Option (S×Mu):=
 match ops[i]? with
 |none=>none|some o=>match o.guard with
  |none=>opt (lU P ρ (H.op rg i) o s μ) λq=>some (q.2.1.put o.dst q.1,q.2.2)|some g=>opt (tr ops g.1) λd=>opt (ip (s.fr d)) λq=>match q == some g.2 with
   |true=>opt (lU P ρ (H.op rg i) o s μ) λq=>some (q.2.1.put o.dst q.1,q.2.2)|false=>some (s.put o.dst (.cv (.v Go.undef)),μ)
section
variable {P:Program}{ρ:Rho}{H:Hints}{rg:Nat}{ops:Array Oper}{α:Type}
def uL {h:OpHint}(hf:iW h=true){o:Oper}{s:S}{μ:Mu}{f:LV->S->Mu->Option α}:opK P ρ h o s μ f (λ_ _ _=>none)=opt (lU P ρ h o s μ) λq=>f q.1 q.2.1 q.2.2:=by
 unfold iW at hf;split at hf
 ·rename_i h1 h2;unfold opK;rw[h1,h2];exact J6
 ·cases hf
def aaE {i:Nat}{rest:List Nat}(hf:iW (H.op rg i)=true){s:S}{μ:Mu}{k:S->Mu->Option α}:
 gY P ρ H rg ops (i::rest) s μ k (λ_ _ _=>none)=opt (gp P ρ H rg ops i s μ) λq=>gY P ρ H rg ops rest q.1 q.2 k λ_ _ _=>none:=by
 simp only[gY,gp];cases ops[i]? with
 |none=>rfl|some o=>
  dsimp only;cases o.guard with
  |none=>dsimp only;rw[uL hf,bY];rfl|some g=>
   dsimp only;simp only[bY];congr;funext d;cases hq:ip (s.fr d)with
   |none=>rfl|some q=>
    cases q with
    |none=>rfl|some b=>simp only[cD];have hb:=oA hq;have hd:=jF hb;obtain⟨j,want⟩:=g;cases b<;>cases want<;>simp only[bH,bI,S.set_self s d _ hd,uL hf,bY,cD,beq_self_eq_true]<;>rfl
def ld (P:Program)(ρ:Rho)(H:Hints)(rg:Nat)(ops:Array Oper)(i:Nat)(o:Oper)(s:S)(μ:Mu):Option (LV×S×Mu):=
 match o.guard with
 |none=>lU P ρ (H.op rg i) o s μ|some g=>opt (tr ops g.1) λd=>opt (ip (s.fr d)) λq=>match q == some g.2 with
  |true=>lU P ρ (H.op rg i) o s μ|false=>some (.cv (.v Go.undef),s,μ)
def qk {i:Nat}{o:Oper}(ho:ops[i]? =some o){s:S}{μ:Mu}:gp P ρ H rg ops i s μ=opt (ld P ρ H rg ops i o s μ) λq=>some (q.2.1.put o.dst q.1,q.2.2):=by
 simp only[gp,ld,ho];cases o.guard with|none=>rfl|some g=>dsimp only;simp only[bY];congr;funext d;congr;funext b;cases b == some g.2<;>rfl
def xR (P:Program)(ρ:Rho)(H:Hints)(rg:Nat)(ops:Array Oper)(i:Nat)(o:Oper)(T:List Nat)(k:Kind)(s t:S)(μ ν:Mu)(v:LV)(s':S)(μ':Mu):Prop:=
 match k with
 | .plain=>s'=bz T s/\μ'=μ/\ld P ρ H rg ops i o t ν=some (v,bz T t,ν)| .rd=>s'=bz T s/\μ'=μ/\ld P ρ H rg ops i o t ν=some (v,bz T t,ν)| .tk=> ∃lam',s'={bz T s with lam:=lam'}/\μ'=μ/\(∀i,SameOb (bU s.lam i) (bU lam' i))/\t.lam=s.lam/\ld P ρ H rg ops i o t ν=some (v,{bz T t with lam:=lam'},ν)| .wr=> ∃lam',s'={bz T s with lam:=lam'}/\μ'=μ/\ld P ρ H rg ops i o t ν=some (v,{bz T t with lam:=lam'},ν)| .ap=> ∃ob,s'={bz T s with lam:=s.lam++[ob]}/\μ'=μ/\ld P ρ H rg ops i o t ν=some (v,{bz T t with lam:=t.lam++[ob]},ν)| .look=>s'=bz T s/\μ'=μ/\ld P ρ H rg ops i o t ν=some (v,bz T t,ν)| .tku=>s'=bz T s/\(∀lev i,SameOb (ce μ lev i) (ce μ' lev i))/\ν=μ/\ld P ρ H rg ops i o t ν=some (v,bz T t,μ')| .ou=>s'=bz T s/\ld P ρ H rg ops i o t ν=some (v,bz T t,μ')| .all=>False
def AgR (hh:OpHint)(ops:Array Oper)(o:Oper)(s t:S):Prop:= ∀u,u∈o.looksAt ops->t.fr u=s.fr u\/(jH hh.take u=false/\strip (t.fr u)=strip (s.fr u))
def wY (x:LV):ip (strip x)=ip x:=by cases x<;>rfl
def AgR.ag {hh:OpHint}{o:Oper}{s t:S}(h:AgR hh ops o s t):Ag hh o s t:=by
 intro x hx;cases x with
 |tmp u=>
  have hu:u∈o.looksAt ops:=by unfold Oper.looksAt;grind
  simp only[evA];rcases h u hu with e|⟨e1,e2⟩
  all_goals simp_all
 |const c=>rfl|global g=>rfl|func f=>rfl
def AgR.guard {hh:OpHint}{o:Oper}{s t:S}(h:AgR hh ops o s t){g:Nat×Bool}(hg:o.guard=some g){d:Nat}(hd:tr ops g.1=some d):ip (t.fr d)=ip (s.fr d):=by
 suffices hs:d∈o.looksAt ops by
  rcases h d hs with e|⟨_,e⟩
  ·rw[e]
  ·rw[<-wY,e,wY]
 unfold Oper.looksAt;refine Uv _ ?_;rw[hg];obtain⟨j,b⟩:=g;simp only[tr]at hd;grind
def E5 {i:Nat}{o:Oper}{s t s':S}{μ ν μ':Mu}{v:LV}(ha:AgR (H.op rg i) ops o s t)(hk:fW (H.op rg i) o≠ .all)(hst:ld P ρ H rg ops i o s μ=some (v,s',μ')):
 ∃T k,(T=(H.op rg i).take\/T=[])/\(k=fW (H.op rg i) o\/k= .plain)/\ ∀t ν,AgR (H.op rg i) ops o s t->gV (fW (H.op rg i) o) s t μ ν->xR P ρ H rg ops i o T k s t μ ν v s' μ':=by
 have hhd:(H.op rg i).hide=none:=by
  cases hh:(H.op rg i).hide with|none=>rfl|some t=>exact absurd (by simp only[fW,hh]) hk
 have hkk:fW (H.op rg i) o=cL (H.op rg i) o:=by simp only[fW,hhd]
 have hsh: ∀s μ,lU P ρ (H.op rg i) o s μ=cP P ρ (H.op rg i) o s μ:=λs μ=>by simp only[lU,hhd]
 rw[hkk]at hk |-;have run:ld P ρ H rg ops i o s μ=cP P ρ (H.op rg i) o s μ->(∀t ν,AgR (H.op rg i) ops o s t->ld P ρ H rg ops i o t ν=cP P ρ (H.op rg i) o t ν)->
  ∃T k,(T=(H.op rg i).take\/T=[])/\(k=cL (H.op rg i) o\/k= .plain)/\ ∀t ν,AgR (H.op rg i) ops o s t->gV (cL (H.op rg i) o) s t μ ν->xR P ρ H rg ops i o T k s t μ ν v s' μ':=by
  intro e1 e2;rw[e1]at hst;refine⟨_,_,.inl rfl,.inl rfl,λt ν ha hc=> ?_⟩;have:=abe ha.ag hc hk hst;unfold Eff at this;unfold xR;rw[e2 t ν ha];revert this hk;cases cL (H.op rg i) o<;>intro hk this<;>first|exact this|exact absurd rfl hk
 cases hg:o.guard with
 |none=>exact run (by simp only[ld,hg,hsh]) λt ν _=>by simp only[ld,hg,hsh]|some g=>
  have hst':=hst;simp only[ld,hg]at hst';obtain⟨d,hd,hst'⟩:=bA.1 hst';obtain⟨b,hb,hst'⟩:=bA.1 hst';cases hbg:b == some g.2 with
  |true=>refine run (by simp only[ld,hg,hd,hb,cD,hbg,hsh]) λt ν ha=> ?_;have:=ha.guard hg hd;simp only[ld,hg,hd,this,hb,cD,hbg,hsh]|false=>rw[hbg]at hst';simp only[bP,dB]at hst';obtain⟨rfl,rfl,rfl⟩:=hst';refine⟨[],.plain,.inr rfl,.inr rfl,λt ν ha hc=>⟨rfl,rfl,?_⟩⟩;have:=ha.guard hg hd;simp only[ld,hg,hd,this,hb,cD,hbg,bz]
def Fx (u:Nat):List Nat->LV->LV
 |[],x=>x|t::r,x=>Fx u r (if u=t then strip x else x)
def phi (T:List Nat)(dst:Option Nat)(v:LV)(u:Nat)(x:LV):LV:=if dst=some u then v else Fx u T x
def lJ: ∀(T:List Nat) (s:S) (u:Nat),(bz T s).fr u=Fx u T (s.fr u)
 |[],s,u=>rfl|t::r,s,u=>by
  simp only[bz,Fx];rw[lJ r];congr 1;by_cases hu:u=t
  ·subst hu;simp only[S.set,j6,cQ]
  ·simp only[S.set,jo _ _ hu,bB hu]
def iD {s':S}{T:List Nat}{s:S}{dst:Option Nat}{v:LV}(h:s'.fr=(bz T s).fr)(u:Nat):(s'.put dst v).fr u=phi T dst v u (s.fr u):=by
 unfold phi;cases dst with
 |none=>simp only[S.put,h,lJ,reduceCtorEq,du]|some d=>
  by_cases hu:u=d
  ·subst hu;simp only[S.put,S.set,j6,cQ]
  ·have: ¬(some d=some u):=λe=>hu (iM e).symm;simp only[S.put,S.set,jo _ _ hu,h,lJ,bB this]
def Hg {u:Nat}: ∀{T:List Nat} {x:LV},u ∉ T->Fx u T x=x
 |[],x,_=>rfl|t::r,x,h=>by simp only[ed,rb]at h;simp only[Fx,bB h.1];exact Hg h.2
def fR {T:List Nat}{dst:Option Nat}{v:LV}{u:Nat}{x:LV}(h1:dst≠some u)(h2:u ∉ T):phi T dst v u x=x:=by unfold phi;rw[bB h1,Hg h2]
def jU (s:S)(dst:Option Nat)(v:LV):(s.put dst v).lam=s.lam/\(s.put dst v).pushed=s.pushed:=by cases dst<;>exact⟨rfl,rfl⟩
end
section
variable {P:Program}{ρ:Rho}{H:Hints}{rg:Nat}{ops:Array Oper}
def sP (k:Kind)(s s1:S)(μ μ1:Mu):Prop:=
 s1.pushed=s.pushed/\match k with
 | .plain=>s1.lam=s.lam/\μ1=μ| .rd=>s1.lam=s.lam/\μ1=μ| .tk=>μ1=μ/\ ∀i,SameOb (bU s.lam i) (bU s1.lam i)| .wr=>μ1=μ| .ap=>(∃ob,s1.lam=s.lam++[ob])/\μ1=μ| .look=>s1.lam=s.lam/\μ1=μ| .tku=>s1.lam=s.lam/\ ∀lev i,SameOb (ce μ lev i) (ce μ1 lev i)| .ou=>s1.lam=s.lam| .all=>False
def xR.left {i:Nat}{o:Oper}{T:List Nat}{k:Kind}{s t s':S}{μ ν μ':Mu}{v:LV}(h:xR P ρ H rg ops i o T k s t μ ν v s' μ'):sP k s s' μ μ'/\s'.fr=(bz T s).fr:=by
 have l:=cq T s;unfold xR at h;unfold sP;cases k with
 |plain=>obtain⟨rfl,rfl,_⟩:=h;exact⟨⟨l.2,l.1,rfl⟩,rfl⟩
 |rd=>obtain⟨rfl,rfl,_⟩:=h;exact⟨⟨l.2,l.1,rfl⟩,rfl⟩
 |tk=>obtain⟨lam',rfl,rfl,hs,_⟩:=h;exact⟨⟨l.2,rfl,hs⟩,rfl⟩
 |wr=>obtain⟨lam',rfl,rfl,_⟩:=h;exact⟨⟨l.2,rfl⟩,rfl⟩
 |ap=>obtain⟨ob,rfl,rfl,_⟩:=h;exact⟨⟨l.2,⟨ob,rfl⟩,rfl⟩,rfl⟩
 |look=>obtain⟨rfl,rfl,_⟩:=h;exact⟨⟨l.2,l.1,rfl⟩,rfl⟩
 |tku=>obtain⟨rfl,hs,_⟩:=h;exact⟨⟨l.2,l.1,hs⟩,rfl⟩
 |ou=>obtain⟨rfl,_⟩:=h;exact⟨⟨l.2,l.1⟩,rfl⟩
 |all=>exact h.elim
def Yk {kj ki:Kind}(hm:gX kj ki=true\/kj= .plain)(hki:ki≠ .all){s s1:S}{μ μ1:Mu}(h:sP kj s s1 μ μ1):gV ki s1 s μ1 μ:=by
 unfold sP at h;obtain⟨hp,h⟩:=h;cases kj<;>cases ki<;>simp_all [gX,gV]
 all_goals
  intro i _
  first
  |exact .refl _|(rw[h.1];exact .refl _)|exact(h.2 i).symm|(intro _;exact .refl _)|(intro _;exact(h.2 _ _).symm)
def abV {kj ki:Kind}(hm:gX kj ki=true\/ki= .plain)(hkj:kj≠ .all){s t1:S}{μ ν1:Mu}(h:sP ki s t1 μ ν1):gV kj s t1 μ ν1:=by
 unfold sP at h;obtain⟨hp,h⟩:=h;cases kj<;>cases ki<;>simp_all [gX,gV]
 all_goals
  intro i hi
  first
  |exact .refl _|(rw[h.1];exact .refl _)|exact h.2 i|(intro _;exact .refl _)|exact h.2 _ _|(intro _;exact h.2 _ _)|(obtain⟨⟨ob,h1⟩,h2⟩:=h;rw[h1,mX (lO hi)];exact .refl _)
def Mem (k:Kind)(a b:Lam)(μ ν:Mu)(a' b':Lam)(μ' ν':Mu):Prop:=
 match k with
 | .plain=>a'=a/\b'=b/\μ'=μ/\ν'=ν| .rd=>a'=a/\b'=b/\μ'=μ/\ν'=ν| .tk=>b'=a'/\μ'=μ/\ν'=ν| .wr=>b'=a'/\μ'=μ/\ν'=ν| .ap=>(∃ob,a'=a++[ob]/\b'=b++[ob])/\μ'=μ/\ν'=ν| .look=>a'=a/\b'=b/\μ'=μ/\ν'=ν| .tku=>a'=a/\b'=b/\ν'=μ'| .ou=>a'=a/\b'=b/\ν'=μ'| .all=>False
def xR.out {i:Nat}{o:Oper}{T:List Nat}{k:Kind}{s t s':S}{μ ν μ':Mu}{v:LV}(h:xR P ρ H rg ops i o T k s t μ ν v s' μ'):
 ∃X ν',ld P ρ H rg ops i o t ν=some (v,X,ν')/\X.fr=(bz T t).fr/\X.pushed=t.pushed/\Mem k s.lam t.lam μ ν s'.lam X.lam μ' ν'/\sP k t X ν ν':=by
 have l:=cq T s;have l2:=cq T t;unfold xR at h;cases k with
 |plain=>obtain⟨rfl,rfl,h⟩:=h;exact⟨_,_,h,rfl,l2.2,⟨l.1,l2.1,rfl,rfl⟩,l2.2,l2.1,rfl⟩
 |rd=>obtain⟨rfl,rfl,h⟩:=h;exact⟨_,_,h,rfl,l2.2,⟨l.1,l2.1,rfl,rfl⟩,l2.2,l2.1,rfl⟩
 |tk=>obtain⟨lam',rfl,rfl,hs,ht,h⟩:=h;exact⟨_,_,h,rfl,l2.2,⟨rfl,rfl,rfl⟩,l2.2,rfl,by rw[ht];exact hs⟩
 |wr=>obtain⟨lam',rfl,rfl,h⟩:=h;exact⟨_,_,h,rfl,l2.2,⟨rfl,rfl,rfl⟩,l2.2,rfl⟩
 |ap=>obtain⟨ob,rfl,rfl,h⟩:=h;exact⟨_,_,h,rfl,l2.2,⟨⟨ob,rfl,rfl⟩,rfl,rfl⟩,l2.2,⟨ob,rfl⟩,rfl⟩
 |look=>obtain⟨rfl,rfl,h⟩:=h;exact⟨_,_,h,rfl,l2.2,⟨l.1,l2.1,rfl,rfl⟩,l2.2,l2.1,rfl⟩
 |tku=>obtain⟨rfl,hs,rfl,h⟩:=h;exact⟨_,_,h,rfl,l2.2,⟨l.1,l2.1,rfl⟩,l2.2,l2.1,hs⟩
 |ou=>obtain⟨rfl,h⟩:=h;exact⟨_,_,h,rfl,l2.2,⟨l.1,l2.1,rfl⟩,l2.2,l2.1⟩
 |all=>exact h.elim
def iS: ∀{a b:List Nat},nX a b=true-> ∀x,x∈a->x ∉ b
 |[],b,_,x,hx=>by simp at hx|y::r,b,h,x,hx=>by
  simp only[nX]at h;split at h
  ·cases h
  ·rename_i hm;rcases ed.1 hx with rfl|hx
   ·intro hb;rw[gw.2 hb]at hm;cases hm
   ·exact iS h x hx
def ml {h:OpHint}{o:Oper}{u:Nat}:u∈eF h o↔o.dst=some u\/u∈h.take:=by unfold eF;grind
def gP {h:OpHint}{o:Oper}{u:Nat}(hu:u ∉ eF h o){T:List Nat}(hT:T=h.take\/T=[]):o.dst≠some u/\u ∉ T:=by rw[ml,rb]at hu;grind
def Po {kj ki kj' ki':Kind}(h:gX kj ki=true)(hj:kj'=kj\/kj'= .plain)(hi:ki'=ki\/ki'= .plain):gX kj' ki'=true:=by rcases hj with e|e<;>rcases hi with e'|e'<;>rw[e,e']<;>cases kj<;>cases ki<;>simp_all [gX]
def ach {kj ki:Kind}{l l1 l2 t1 y:Lam}{μ μ1 μ2 ν1 ν2:Mu}(ha:gX kj ki=true)(hb:Mem ki l1 l μ1 μ l2 t1 μ2 ν1)(hc:Mem kj l t1 μ ν1 l1 y μ1 ν2):y=l2/\ν2=μ2:=by
 cases kj<;>cases ki<;>simp only[gX,d6]at ha<;>simp only[Mem]at hb hc
 all_goals first
  |(obtain⟨a1,a2,a3,a4⟩:=hb;obtain⟨b1,b2,b3,b4⟩:=hc;subst_vars;exact⟨rfl,rfl⟩)|(obtain⟨⟨ob,a1,a2⟩,a3,a4⟩:=hb;obtain⟨b1,b2,b3,b4⟩:=hc;subst_vars;exact⟨rfl,rfl⟩)|(obtain⟨a1,a2,a3⟩:=hb;obtain⟨b1,b2,b3,b4⟩:=hc;subst_vars;exact⟨rfl,rfl⟩)|(obtain⟨a1,a2,a3,a4⟩:=hb;obtain⟨b1,b2,b3⟩:=hc;subst_vars;exact⟨rfl,rfl⟩)|(obtain⟨⟨ob,a1,a2⟩,a3,a4⟩:=hb;obtain⟨⟨ob2,b1,b2⟩,b3,b4⟩:=hc;subst_vars;exact⟨rfl,rfl⟩)|(obtain⟨a1,a2,a3⟩:=hb;obtain⟨b1,b2,b3⟩:=hc;subst_vars;exact⟨rfl,rfl⟩)|(obtain⟨a1,a2,a3,a4⟩:=hb;obtain⟨⟨ob,b1,b2⟩,b3,b4⟩:=hc;subst_vars;exact⟨rfl,rfl⟩)|(obtain⟨a1,a2,a3⟩:=hb;obtain⟨⟨ob,b1,b2⟩,b3,b4⟩:=hc;subst_vars;exact⟨rfl,rfl⟩)|(obtain⟨⟨ob,a1,a2⟩,a3,a4⟩:=hb;obtain⟨b1,b2,b3⟩:=hc;subst_vars;exact⟨rfl,rfl⟩)
def sn {T:List Nat}{dst:Option Nat}{v:LV}{u:Nat}{x:LV}(h1:dst≠some u):strip (phi T dst v u x)=strip x:=by
 unfold phi;rw[bB h1]
 induction T generalizing x with
 |nil=>rfl|cons t r ih=>
  simp only[Fx];rw[ih];split
  ·exact Ef x
  ·rfl
def Ct {h:OpHint}{o:Oper}{t:Nat}(hx:Dc h o t=true):o.guard=none/\(∃ty,o.op= .load ty (.tmp t))/\h.cell=true/\h.hide=none:=by
 unfold Dc at hx;split at hx
 ·rename_i ty u hg ho;simp only[cE]at hx;have e:=fb hx.1.1;grind
 ·cases hx
def DH {hx hy:OpHint}{x y:Oper}(h:pV hx x hy y=true): ∃t c fx,hy.hide=some t/\y.guard=none/\y.op= .call c/\c.callee= .value fx/\Dc hx x t=true/\t ∉ eF hx x/\t ∉ eF hy y:=by
 unfold pV at h;split at h
 ·rename_i t c h1 h2 h3;split at h
  ·rename_i fx h4;simp only[cE,iL]at h;refine⟨t,c,fx,h1,h2,h3,h4,h.1.1,λhm=> ?_,λhm=> ?_⟩
   ·rw[gw.2 hm]at h;simp at h
   ·rw[gw.2 hm]at h;simp at h
  ·cases h
 ·cases h
def JC {β:Type}{h:OpHint}{ty:TypeId}{f:FuncId}{args:List LV}{s:S}{μ:Mu}{g:Fr}{k:LV->S->Mu->Option β}{p:CV->S->Mu->Option β}:
 io P ρ h ty f args {s with fr:=g} μ k p=io P ρ h ty f args s μ (λv s μ=>k v {s with fr:=g} μ) (λv s μ=>p v {s with fr:=g} μ):=by
 rfl
def oD {h:OpHint}{o:Oper}{c:Call}{fx:Operand}{s t:S}{μ:Mu}(ho:o.op= .call c)(hc0:c.callee= .value fx)(ha:Ag h o s t)(hl:t.lam=s.lam)(hpu:t.pushed=s.pushed):
 cP P ρ h o t μ=opt (cP P ρ h o s μ) λq=>some (q.1,{q.2.1 with fr:=(bz h.take t).fr},q.2.2):=by
 have e1:=ha fx (by simp[ho,Op.operands,Call.operands,hc0]);have em:c.args.toList.map (evA h t.fr)=c.args.toList.map (evA h s.fr):=xB λx hx=>ha x (by simp[ho,Op.operands,Call.operands,hc0];right;simpa using hx);have l1:=cq h.take s;have l2:=cq h.take t;have est:bz h.take t={bz h.take s with fr:=(bz h.take t).fr}:=by
  have a1:(bz h.take t).lam=(bz h.take s).lam:=by rw[l2.1,l1.1,hl]
  have a2:(bz h.take t).pushed=(bz h.take s).pushed:=by rw[l2.2,l1.2,hpu]
  revert a1 a2;generalize bz h.take t=A;generalize bz h.take s=B;intro a1 a2;cases A;cases B;simp only at a1 a2;rw[a1,a2]
 have key: ∀(f:FuncId) (args:List LV),(io P ρ h o.type f args (bz h.take t) μ (λv s μ=>some (v,s,μ)) λ_ _ _=>none)=
  opt (io P ρ h o.type f args (bz h.take s) μ (λv s μ=>some (v,s,μ)) λ_ _ _=>none) λq=>some (q.1,{q.2.1 with fr:=(bz h.take t).fr},q.2.2):=by
  intro f args
  conv=>lhs;rw[est]
  rw[JC,tw];rfl
 simp only[cP,ep,ho,hc0,e1,em,cZ];congr 1;generalize evA h s.fr fx=q;cases q with
 |cv cc=>
  cases cc with|clo f caps=>exact key _ _|_=>rfl
 |lclo f caps=>exact key _ _|_=>rfl
def GV {μ:Mu}{lev i:Nat}{o:Ob}(h:BA μ lev i=true):ce (cx μ lev i o) lev i=o:=by
 unfold BA at h;split at h
 ·rename_i l hl;have h1:lev<μ.length:=(dP.1 hl).1;have h2:i<l.length:=by simpa[pj]using h
  simp only[cx,hl,ce,uY h1,uY h2]
 ·cases h
def vM {μ:Mu}{lev i:Nat}{o o':Ob}:cx (cx μ lev i o) lev i o'=cx μ lev i o':=by
 cases hl:μ[lev]? with
 |none=>simp only[cx,hl]|some l=>
  have h1:lev<μ.length:=(dP.1 hl).1;have e: ∀x,cx μ lev i x=μ.set lev (l.set i x):=λx=>by simp only[cx,hl]
  rw[e,e];simp only[cx,uY h1,Du]
def TL {μ:Mu}{lev i:Nat}(h:b8 (ce μ lev i)):BA μ lev i=true:=by
 unfold ce at h;unfold BA;split at h
 ·rename_i l hl;split at h
  ·rename_i x hx;have:=(dP.1 hx).1;simp_all
  ·exact h.elim
 ·exact h.elim
def rr {ty:TypeId}{ob:Ob}{off:Nat}{q:LV×Ob}(h:jl P ty ob off=some q):b8 ob/\b8 q.2:=by
 unfold jl at h;obtain⟨_,_,h⟩:=bA.1 h;split at h<;>try(cases h;done)
 split at h<;>try(cases h;done)
 split at h<;>try(cases h;done)
 simp only[bP]at h;subst h;exact⟨trivial,trivial⟩
def FX {A B:S}(h1:A.fr=B.fr)(h2:A.lam=B.lam)(h3:A.pushed=B.pushed):A=B:=by cases A;cases B;simp only at h1 h2 h3;rw[h1,h2,h3]
def TH {s A B C D:S}{Tj Ti:List Nat}{dj di:Option Nat}{vj vi:LV}{hj hi:OpHint}{oj oi:Oper}(hdj:oj.dst=dj)(hdi:oi.dst=di)(hTj:Tj=hj.take)(hTi:Ti=hi.take)
 (d2:nX (eF hj oj) (eF hi oi)=true) (h1:A.fr=(bz Tj s).fr) (h2:B.fr=(bz Ti (A.put dj vj)).fr) (h3:C.fr=(bz Ti s).fr) (h4:D.fr=(bz Tj (C.put di vi)).fr):
 (D.put dj vj).fr=(B.put di vi).fr:=by
 subst hdj hdi hTj hTi;funext u;rw[iD h4 u,iD h3 u,iD h2 u,iD h1 u];by_cases hu:u∈eF hj oj
 ·have hnw:=iS d2 u hu;obtain⟨n1,n2⟩:=gP hnw (.inl rfl);rw[fR n1 n2,fR n1 n2]
 ·obtain⟨n1,n2⟩:=gP hu (.inl rfl);rw[fR n1 n2,fR n1 n2]
def RR {i j:Nat}{s s1 s2:S}{μ μ1 μ2:Mu}{oj oi:Oper}(hj:ops[j]? =some oj)(hi:ops[i]? =some oi)(d1:nX (sS oj) (oi.looksAt ops)=true)(d2:nX (eF (H.op rg j) oj) (eF (H.op rg i) oi)=true)
 (d3:nX (sS oi) (oj.looksAt ops)=true) (hm:pV (H.op rg j) oj (H.op rg i) oi=true) (h1:gp P ρ H rg ops j s μ=some (s1,μ1)) (h2:gp P ρ H rg ops i s1 μ1=some (s2,μ2)):
 ∃t1 ν1,gp P ρ H rg ops i s μ=some (t1,ν1)/\gp P ρ H rg ops j t1 ν1=some (s2,μ2):=by
 obtain⟨t,c,fx,hh,hg,hop,hcl,htk,htj,hti⟩:=DH hm;obtain⟨hgj,⟨ty,hopj⟩,hcell,hhj⟩:=Ct htk;have stJ: ∀s μ,gp P ρ H rg ops j s μ=opt (cP P ρ (H.op rg j) oj s μ) λq=>some (q.2.1.put oj.dst q.1,q.2.2):=λs μ=>by simp only[gp,hj,hgj,lU,hhj]
 have stI: ∀s μ,gp P ρ H rg ops i s μ=opt (iq t s μ λpl ob s μ=>opt (cP P ρ (H.op rg i) oi s μ) λq=>jL pl ob q.2.1 q.2.2 λs μ=>some (q.1,s,μ)) λq=>some (q.2.1.put oi.dst q.1,q.2.2):=λs μ=>by simp only[gp,hi,hg,lU,hh]
 have ntj:=gP htj (T:=(H.op rg j).take) (.inl rfl);have nti:=gP hti (T:=(H.op rg i).take) (.inl rfl);have stL: ∀s μ,cP P ρ (H.op rg j) oj s μ=ke P (H.op rg j) ty (strip (s.fr t)) (bz (H.op rg j).take s) μ λv s μ=>some (v,s,μ):=λs μ=>by
  have:jH (H.op rg j).take t=false:=by
   cases hm:jH (H.op rg j).take t with|false=>rfl|true=>exact absurd (gw.1 hm) ntj.2
  simp only[cP,ep,hopj,evA,this]
 rw[stJ]at h1;obtain⟨⟨vj,sj,μj⟩,g1,e1⟩:=bA.1 h1;simp only[bP,dB]at e1;obtain⟨rfl,rfl⟩:=e1;rw[stL]at g1;rw[stI]at h2;obtain⟨⟨vi,si,μi⟩,g2,e2⟩:=bA.1 h2;simp only[bP,dB]at e2;obtain⟨rfl,rfl⟩:=e2;have lj:=cq (H.op rg j).take s;have hput:=jU sj oj.dst vj;have hag: ∀{X Y:S},sj.fr=(bz (H.op rg j).take s).fr->X.fr=(sj.put oj.dst vj).fr->Y.fr=s.fr->Ag (H.op rg i) oi X Y:=by
  intro X Y hfr hX hY;refine AgR.ag (ops:=ops) λu hu=> ?_;rw[hX,hY];have hnd:oj.dst≠some u:=λh=>iS d1 u (by simp[sS,h]) hu;rw[iD hfr u];by_cases hw:u∈eF (H.op rg j) oj
  ·right;refine⟨?_,(sn hnd).symm⟩;cases hm:jH (H.op rg i).take u with|false=>rfl|true=>exact absurd (ml.2 (.inr (gw.1 hm))) (iS d2 u hw)
  ·obtain⟨n1,n2⟩:=gP hw (.inl rfl);exact .inl (fR n1 n2).symm
 have hfrt:sj.fr=(bz (H.op rg j).take s).fr->(sj.put oj.dst vj).fr t=s.fr t:=λhfr=>by rw[iD hfr t,fR ntj.1 ntj.2]
 have hfrt2: ∀{C:S},C.fr=(bz (H.op rg i).take s).fr->(C.put oi.dst vi).fr t=s.fr t:=λhfr=>by rw[iD hfr t,fR nti.1 nti.2]
 unfold ke at g1;rw[hcell]at g1;cases hx:s.fr t with
 |loc ix off=>
  rw[hx]at g1;simp only[strip]at g1;cases hou:(H.op rg j).outer with
  |true=>rw[hou]at g1;cases g1|false=>
  rw[hou]at g1;dsimp only at g1;obtain⟨q,k1,k2⟩:=bA.1 g1;simp only[bP,dB]at k2;obtain⟨rfl,esj,rfl⟩:=k2;rw[lj.1]at k1 esj;have hsfr:sj.fr=(bz (H.op rg j).take s).fr:=by rw[<-esj]
  have hslam:sj.lam=s.lam.set ix q.2:=by rw[<-esj]
  have hspu:sj.pushed=s.pushed:=by rw[<-esj];exact lj.2
  obtain⟨lv1,lv2⟩:=rr k1;have hix:=lO lv1;have hft:=hfrt hsfr;rw[hx]at hft;have elam:(sj.put oj.dst q.1).lam=s.lam.set ix q.2:=by rw[hput.1,hslam]
  have epu:(sj.put oj.dst q.1).pushed=s.pushed:=by rw[hput.2,hspu]
  unfold iq at g2;rw[hft]at g2;dsimp only at g2;have hps:s.pushed=true:=by
   cases hp:s.pushed with|true=>rfl|false=>rw[epu,hp]at g2;cases g2
  have epu2:(sj.put oj.dst q.1).pushed=true:=by rw[epu,hps]
  rw[epu2]at g2;dsimp only at g2;obtain⟨_,g2⟩:=bR.1 g2;obtain⟨⟨v,s',μ'⟩,c1,c2⟩:=bA.1 g2;simp only[jL]at c2;obtain⟨c3,c4⟩:=bR.1 c2;simp only[bP,dB]at c4;obtain⟨rfl,rfl,rfl⟩:=c4;simp only[cE]at c3;have hlen:ix<s'.lam.length:=by simpa[pj]using c3.1
  have eob:bU (s.lam.set ix q.2) ix=q.2:=by rw[sb hix,bC rfl]
  have eX:({sj.put oj.dst q.1 with lam:=(sj.put oj.dst q.1).lam.set ix .dead,pushed:=true}:S)={sj.put oj.dst q.1 with lam:=(sj.put oj.dst q.1).lam.set ix .dead}:=by rw[<-epu2]
  have c5:=oD (h:=H.op rg i) (P:=P) (ρ:=ρ) (μ:=μ) hop hcl (hag (X:={sj.put oj.dst q.1 with lam:=(sj.put oj.dst q.1).lam.set ix .dead}) (Y:={s with lam:=s.lam.set ix .dead}) hsfr rfl rfl)
   (by simp only[elam,Du]) (by simp only[epu])
  have c6:=oD (h:=H.op rg i) (P:=P) (ρ:=ρ) (μ:=μ) hop hcl (Ag.self (s:={sj.put oj.dst q.1 with lam:=(sj.put oj.dst q.1).lam.set ix .dead})) rfl rfl;have c1':cP P ρ (H.op rg i) oi {sj.put oj.dst q.1 with lam:=(sj.put oj.dst q.1).lam.set ix .dead} μ=some (v,s',μ'):=by rw[<-c1];congr 1;exact FX rfl rfl epu2
  rw[c1']at c5 c6;simp only[cD]at c5 c6;simp only[bP,dB,jW,ka]at c6;have hfs:s'.fr=(bz (H.op rg i).take {sj.put oj.dst q.1 with lam:=(sj.put oj.dst q.1).lam.set ix .dead}).fr:=by rw[c6]
  refine⟨S.put {s' with fr:=(bz (H.op rg i).take {s with lam:=s.lam.set ix .dead}).fr,lam:=s'.lam.set ix (bU s.lam ix)} oi.dst v,μ',?_,?_⟩
  ·rw[stI];unfold iq;rw[hx,hps];dsimp only;have eY:cP P ρ (H.op rg i) oi {fr:=s.fr,lam:=s.lam.set ix .dead,pushed:=true} μ=cP P ρ (H.op rg i) oi {s with lam:=s.lam.set ix .dead} μ:=by rw[<-hps]
   rw[bD,mg.2 lv1,bH,eY,c5];simp only[cD,jL,bD,c3.1,c3.2,t7,bH,hps]
  ·have hft2:=hfrt2 (C:={s' with fr:=(bz (H.op rg i).take {s with lam:=s.lam.set ix .dead}).fr,lam:=s'.lam.set ix (bU s.lam ix)}) (by funext u;rw[lJ,lJ]);have hput3:=jU {s' with fr:=(bz (H.op rg i).take {s with lam:=s.lam.set ix .dead}).fr,lam:=s'.lam.set ix (bU s.lam ix)} oi.dst v;rw[stJ,stL,hft2,hx];simp only[strip,ke,hou,hcell];have l3:=cq (H.op rg j).take (S.put {s' with fr:=(bz (H.op rg i).take {s with lam:=s.lam.set ix .dead}).fr,lam:=s'.lam.set ix (bU s.lam ix)} oi.dst v);rw[l3.1,hput3.1];simp only[sb hlen,bC,k1,cD,bP,dB,ka,Du];have hputD:=jU {bz (H.op rg j).take (S.put {s' with fr:=(bz (H.op rg i).take {s with lam:=s.lam.set ix .dead}).fr,lam:=s'.lam.set ix (bU s.lam ix)} oi.dst v)with lam:=s'.lam.set ix q.2} oj.dst q.1;have hputB:=jU {s' with lam:=s'.lam.set ix (bU (sj.put oj.dst q.1).lam ix)} oi.dst v;refine FX ?_ ?_ ?_
   ·refine TH (s:=s) rfl rfl rfl rfl d2 (A:=sj) (C:={s' with fr:=(bz (H.op rg i).take {s with lam:=s.lam.set ix .dead}).fr,lam:=s'.lam.set ix (bU s.lam ix)}) hsfr ?_ ?_ rfl
    ·simp only;rw[hfs];funext u;rw[lJ,lJ]
    ·funext u;simp only[lJ]
   ·rw[hputD.1,hputB.1,elam,eob]
   ·rw[hputD.2,hputB.2];simp only;rw[l3.2,hput3.2]
 |cv cc=>
  rw[hx]at g1;simp only[strip]at g1;cases hou:(H.op rg j).outer with
  |false=>rw[hou]at g1;dsimp only at g1;obtain⟨cs,v1,g1⟩:=bA.1 g1;obtain⟨c',v2,v3⟩:=bA.1 g1;simp only[bP,dB]at v3;obtain⟨rfl,rfl,rfl⟩:=v3;have hft:=hfrt rfl;rw[hx]at hft;unfold iq at g2;rw[hft]at g2;dsimp only at g2;obtain⟨q,r1,_⟩:=bA.1 g2;cases cc<;>simp[iU,pU]at v1 r1
  |true=>
  rw[hou]at g1;dsimp only at g1;obtain⟨⟨lev,ix,off⟩,r1,g1⟩:=bA.1 g1;obtain⟨q,k1,k2⟩:=bA.1 g1;have key: ∀(X:S) (M:Mu),(fq P true ty q.1 λv=>some (v,X,M))=some (vj,X,M):=by
   intro X M;have:(fq P true ty q.1 λv=>some (v,X,M))=opt (fq P true ty q.1 λv=>some (v,bz (H.op rg j).take s,cx μ lev ix q.2)) λq=>some (q.1,X,M):=by rw[kK];rfl
   rw[this,k2];rfl
  have k3:=key (bz (H.op rg j).take s) (cx μ lev ix q.2);rw[k3]at k2;simp only[bP,dB,jW]at k2;obtain⟨rfl,rfl⟩:=k2;obtain⟨lv1,lv2⟩:=rr k1;have hin:=TL lv1;have hft:=hfrt rfl;rw[hx]at hft;unfold iq at g2;rw[hft]at g2;dsimp only at g2;rw[r1,cD]at g2;dsimp only at g2;obtain⟨_,g2⟩:=bR.1 g2;rw[GV hin,vM]at g2;obtain⟨⟨v,s',μ'⟩,c1,c2⟩:=bA.1 g2;simp only[jL]at c2;obtain⟨c3,c4⟩:=bR.1 c2;simp only[bP,dB]at c4;obtain⟨rfl,rfl,rfl⟩:=c4;simp only[cE]at c3;have elam:(S.put (bz (H.op rg j).take s) oj.dst vj).lam=s.lam:=by rw[hput.1,lj.1]
  have epu:(S.put (bz (H.op rg j).take s) oj.dst vj).pushed=s.pushed:=by rw[hput.2,lj.2]
  have c5:=oD (h:=H.op rg i) (P:=P) (ρ:=ρ) (μ:=cx μ lev ix .dead) hop hcl (hag (X:=S.put (bz (H.op rg j).take s) oj.dst vj) (Y:=s) rfl rfl rfl) elam.symm epu.symm;have c6:=oD (h:=H.op rg i) (P:=P) (ρ:=ρ) (μ:=cx μ lev ix .dead) hop hcl (Ag.self (s:=S.put (bz (H.op rg j).take s) oj.dst vj)) rfl rfl;rw[c1]at c5 c6;simp only[cD]at c5 c6;simp only[bP,dB,jW,ka]at c6;have hfs:s'.fr=(bz (H.op rg i).take (S.put (bz (H.op rg j).take s) oj.dst vj)).fr:=by rw[c6]
  refine⟨S.put {s' with fr:=(bz (H.op rg i).take s).fr} oi.dst v,cx μ' lev ix (ce μ lev ix),?_,?_⟩
  ·rw[stI];unfold iq;rw[hx];dsimp only;rw[r1,cD];dsimp only;rw[bD,mg.2 lv1,bH,c5];simp only[cD,jL,bD,c3.1,c3.2,t7,bH]
  ·have hft2:=hfrt2 (C:={s' with fr:=(bz (H.op rg i).take s).fr}) rfl;have hput3:=jU {s' with fr:=(bz (H.op rg i).take s).fr} oi.dst v;rw[stJ,stL,hft2,hx];simp only[strip,ke,hou,hcell];rw[r1,cD];dsimp only;rw[GV c3.1,k1,cD,key,cD,vM];simp only[bP,dB,ka];have l3:=cq (H.op rg j).take (S.put {s' with fr:=(bz (H.op rg i).take s).fr} oi.dst v);have hputD:=jU (bz (H.op rg j).take (S.put {s' with fr:=(bz (H.op rg i).take s).fr} oi.dst v)) oj.dst vj;have hputB:=jU s' oi.dst v;refine FX ?_ ?_ ?_
   ·refine TH (s:=s) rfl rfl rfl rfl d2 (A:=bz (H.op rg j).take s) (C:={s' with fr:=(bz (H.op rg i).take s).fr}) rfl ?_ rfl rfl;rw[hfs]
   ·rw[hputD.1,hputB.1,l3.1,hput3.1]
   ·rw[hputD.2,hputB.2,l3.2,hput3.2]
 |osl _=>rw[hx]at g1;simp only[strip]at g1;cases hou:(H.op rg j).outer<;>rw[hou]at g1<;>cases g1|ost _=>rw[hx]at g1;simp only[strip]at g1;cases g1|stl _=>rw[hx]at g1;simp only[strip]at g1;cases g1|lsl _ _ _=>rw[hx]at g1;simp only[strip]at g1;cases g1|lclo _ _=>rw[hx]at g1;simp only[strip]at g1;cases g1|mloc _=>rw[hx]at g1;simp only[strip]at g1;cases g1|tloc _ _ _=>rw[hx]at g1;simp only[strip]at g1;cases g1|ltup _=>rw[hx]at g1;simp only[strip]at g1;cases g1
def ma (P:Program)(ρ:Rho)(h:OpHint)(o:Oper)(s:S)(μ:Mu):Option ((LV×S×Mu) ⊕(CV×S×Mu)):=ep P ρ h o s μ (λv s μ=>some (Sum.inl (v,s,μ))) λv s μ=>some (Sum.inr (v,s,μ))
def kT (P:Program)(ρ:Rho)(h:OpHint)(o:Oper)(s:S)(μ:Mu):Option ((LV×S×Mu) ⊕(CV×S×Mu)):=qd P ρ h o s μ (λv s μ=>some (Sum.inl (v,s,μ))) λv s μ=>some (Sum.inr (v,s,μ))
def lg {β:Type}(f:LV->S->Mu->Option β)(p:CV->S->Mu->Option β):(LV×S×Mu) ⊕(CV×S×Mu)->Option β
 | .inl q=>f q.1 q.2.1 q.2.2| .inr q=>p q.1 q.2.1 q.2.2
def aaA {β:Type}{h:OpHint}{o:Oper}{s:S}{μ:Mu}{f:LV->S->Mu->Option β}{p:CV->S->Mu->Option β}:ep P ρ h o s μ f p=opt (ma P ρ h o s μ) (lg f p):=by unfold ma;rw[Fk];rfl
def aaB {β:Type}{h:OpHint}{o:Oper}{s:S}{μ:Mu}{f:LV->S->Mu->Option β}{p:CV->S->Mu->Option β}:qd P ρ h o s μ f p=opt (kT P ρ h o s μ) (lg f p):=by
 unfold kT qd;cases h.hide with|none=>exact aaA|some t=>simp only[JW,Fk,JX];rfl
def aee {β:Type}{h:OpHint}(hf:iW h=true){o:Oper}{s:S}{μ:Mu}{f:LV->S->Mu->Option β}{p:CV->S->Mu->Option β}:opK P ρ h o s μ f p=opt (kT P ρ h o s μ) (lg f p):=by
 unfold iW at hf;split at hf
 ·rename_i h1 h2;unfold opK;rw[h1,h2];exact aaB
 ·cases hf
def afR {h:OpHint}{o:Oper}{s:S}{μ:Mu}:lU P ρ h o s μ=opt (kT P ρ h o s μ) (lg (λv s μ=>some (v,s,μ)) λ_ _ _=>none):=by have:=J6 (P:=P) (ρ:=ρ) (h:=h) (o:=o) (s:=s) (μ:=μ) (f:=λv s μ=>some (v,s,μ));rw[aaB]at this;rw[this];cases lU P ρ h o s μ<;>rfl
def J4 {β:Type}{h:OpHint}{o:Oper}(hm:lR o=false){s:S}{μ:Mu}{f:LV->S->Mu->Option β}{p p':CV->S->Mu->Option β}:ep P ρ h o s μ f p=ep P ρ h o s μ f p':=by
 unfold lR at hm;unfold ep;split at hm
 ·rename_i c ho;split at hm
  ·cases hm
  ·rename_i hc;rw[ho];grind
 ·cases hm
 grind
def OJ {β:Type}{h:OpHint}{o:Oper}(hm:lR o=false){s:S}{μ:Mu}{f:LV->S->Mu->Option β}{p p':CV->S->Mu->Option β}:opK P ρ h o s μ f p=opK P ρ h o s μ f p':=by
 unfold opK qd;cases h.hide with|none=>simp only[J4 hm (p:=p) (p':=p')]|some t=>simp only[J4 hm (p:=p) (p':=p')]
def refr (F:Fr):(LV×S×Mu) ⊕(CV×S×Mu)->(LV×S×Mu) ⊕(CV×S×Mu)
 | .inl q=>Sum.inl (q.1,{q.2.1 with fr:=F},q.2.2)| .inr q=>Sum.inr (q.1,{q.2.1 with fr:=F},q.2.2)
def xl {h:OpHint}{o:Oper}{c:Call}{fx:Operand}{s t:S}{μ:Mu}(ho:o.op= .call c)(hc0:c.callee= .value fx)(ha:Ag h o s t)(hl:t.lam=s.lam)(hpu:t.pushed=s.pushed):
 ma P ρ h o t μ=opt (ma P ρ h o s μ) λq=>some (refr (bz h.take t).fr q):=by
 have e1:=ha fx (by simp[ho,Op.operands,Call.operands,hc0]);have em:c.args.toList.map (evA h t.fr)=c.args.toList.map (evA h s.fr):=xB λx hx=>ha x (by simp[ho,Op.operands,Call.operands,hc0];right;simpa using hx);have l1:=cq h.take s;have l2:=cq h.take t;have est:bz h.take t={bz h.take s with fr:=(bz h.take t).fr}:=FX rfl (by rw[l2.1,l1.1,hl]) (by rw[l2.2,l1.2,hpu]);have key: ∀(f:FuncId) (args:List LV),(io P ρ h o.type f args (bz h.take t) μ (λv s μ=>some (Sum.inl (v,s,μ))) λv s μ=>some (Sum.inr (v,s,μ)))=
  opt (io P ρ h o.type f args (bz h.take s) μ (λv s μ=>some (Sum.inl (v,s,μ))) λv s μ=>some (Sum.inr (v,s,μ))) λq=>some (refr (bz h.take t).fr q):=by
  intro f args
  conv=>lhs;rw[est]
  rw[JC,tw];rfl
 simp only[ma,ep,ho,hc0,e1,em,cZ];congr 1;generalize evA h s.fr fx=q;cases q with
 |cv cc=>
  cases cc with|clo f caps=>exact key _ _|_=>rfl
 |lclo f caps=>exact key _ _|_=>rfl
def FV (a b:CV×S×Mu):Prop:=b.1=a.1/\b.2.1.lam=a.2.1.lam/\b.2.1.pushed=a.2.1.pushed/\b.2.2=a.2.2
def zC {h:OpHint}{o:Oper}{t:Nat}(hh:h.hide=some t){s:S}{μ:Mu}{q:CV×S×Mu}:kT P ρ h o s μ=some (Sum.inr q)↔iq t s μ (λ_ _ s μ=>opt (ma P ρ h o s μ) (lg (λ_ _ _=>none) λv s μ=>some (v,s,μ)))=some q:=by
 have hs: ∀pl ob (s:S) (μ:Mu) (v:LV),(jL pl ob s μ λs μ=>(some (Sum.inl (v,s,μ)):Option ((LV×S×Mu) ⊕(CV×S×Mu))))≠some (Sum.inr q):=by
  intro pl ob s μ v h;unfold jL at h;split at h
  ·obtain⟨_,h⟩:=bR.1 h;cases h
  ·obtain⟨_,h⟩:=bR.1 h;cases h
 have hb: ∀pl ob (s:S) (μ:Mu),opt (ma P ρ h o s μ) (lg (λv s μ=>jL pl ob s μ λs μ=>some (Sum.inl (v,s,μ))) λv s μ=>some (Sum.inr (v,s,μ)))=some (Sum.inr q)↔opt (ma P ρ h o s μ) (lg (λ_ _ _=>none) λv s μ=>some (v,s,μ))=some q:=by
  intro pl ob s μ;cases ma P ρ h o s μ with
  |none=>exact⟨λh=>(by cases h),λh=>(by cases h)⟩|some e=>
   cases e with|inl x=>exact⟨λh=>absurd h (hs _ _ _ _ _),λh=>(by cases h)⟩|inr x=>exact⟨λh=>(by injection h with h;injection h with h;exact mE some h),λh=>(by injection h with h;rw[<-h];rfl)⟩
 unfold kT qd;rw[hh];dsimp only;simp only[aaA];unfold iq;cases s.fr t with
 |loc i off=>
  dsimp only;cases s.pushed with|true=>simp only[bR,hb]|false=>exact⟨λh=>(by cases h),λh=>(by cases h)⟩
 |cv c=>simp only[bA,bR,hb]|_=>exact⟨λh=>(by cases h),λh=>(by cases h)⟩
def W4 {i j:Nat}{s s1:S}{μ μ1:Mu}{oj oi:Oper}{q:CV×S×Mu}(hj:ops[j]? =some oj)(d1:nX (sS oj) (oi.looksAt ops)=true)(d2:nX (eF (H.op rg j) oj) (eF (H.op rg i) oi)=true)
 (hm:pV (H.op rg j) oj (H.op rg i) oi=true) (h1:gp P ρ H rg ops j s μ=some (s1,μ1)) (h2:kT P ρ (H.op rg i) oi s1 μ1=some (Sum.inr q)):
 ∃q',kT P ρ (H.op rg i) oi s μ=some (Sum.inr q')/\FV q q':=by
 obtain⟨t,c,fx,hh,hg,hop,hcl,htk,htj,hti⟩:=DH hm;obtain⟨hgj,⟨ty,hopj⟩,hcell,hhj⟩:=Ct htk;have stJ: ∀s μ,gp P ρ H rg ops j s μ=opt (cP P ρ (H.op rg j) oj s μ) λq=>some (q.2.1.put oj.dst q.1,q.2.2):=λs μ=>by simp only[gp,hj,hgj,lU,hhj]
 have ntj:=gP htj (T:=(H.op rg j).take) (.inl rfl);have stL: ∀s μ,cP P ρ (H.op rg j) oj s μ=ke P (H.op rg j) ty (strip (s.fr t)) (bz (H.op rg j).take s) μ λv s μ=>some (v,s,μ):=λs μ=>by
  have:jH (H.op rg j).take t=false:=by
   cases hm:jH (H.op rg j).take t with|false=>rfl|true=>exact absurd (gw.1 hm) ntj.2
  simp only[cP,ep,hopj,evA,this]
 rw[stJ]at h1;obtain⟨⟨vj,sj,μj⟩,g1,e1⟩:=bA.1 h1;simp only[bP,dB]at e1;obtain⟨rfl,rfl⟩:=e1;rw[stL]at g1;have h2:=(zC hh).1 h2;have lj:=cq (H.op rg j).take s;have hput:=jU sj oj.dst vj;have hag: ∀{X Y:S},sj.fr=(bz (H.op rg j).take s).fr->X.fr=(sj.put oj.dst vj).fr->Y.fr=s.fr->Ag (H.op rg i) oi X Y:=by
  intro X Y hfr hX hY;refine AgR.ag (ops:=ops) λu hu=> ?_;rw[hX,hY];have hnd:oj.dst≠some u:=λh=>iS d1 u (by simp[sS,h]) hu;rw[iD hfr u];by_cases hw:u∈eF (H.op rg j) oj
  ·right;refine⟨?_,(sn hnd).symm⟩;cases hm:jH (H.op rg i).take u with|false=>rfl|true=>exact absurd (ml.2 (.inr (gw.1 hm))) (iS d2 u hw)
  ·obtain⟨n1,n2⟩:=gP hw (.inl rfl);exact .inl (fR n1 n2).symm
 have hfrt:sj.fr=(bz (H.op rg j).take s).fr->(sj.put oj.dst vj).fr t=s.fr t:=λhfr=>by rw[iD hfr t,fR ntj.1 ntj.2]
 have fin: ∀{X Y:S} {μ:Mu},Ag (H.op rg i) oi X Y->Y.lam=X.lam->Y.pushed=X.pushed->opt (ma P ρ (H.op rg i) oi X μ) (lg (λ_ _ _=>none) λv s μ=>some (v,s,μ))=some q->
  ∃q',opt (ma P ρ (H.op rg i) oi Y μ) (lg (λ_ _ _=>none) λv s μ=>some (v,s,μ))=some q'/\FV q q':=by
  intro X Y μ ha hl hp h;rw[xl hop hcl ha hl hp];obtain⟨e,h3,h4⟩:=bA.1 h;rw[h3];cases e with|inl x=>cases h4|inr x=>simp only[lg,bP]at h4;subst h4;exact⟨_,rfl,rfl,rfl,rfl,rfl⟩
 unfold ke at g1;rw[hcell]at g1;cases hx:s.fr t with
 |loc ix off=>
  rw[hx]at g1;simp only[strip]at g1;cases hou:(H.op rg j).outer with
  |true=>rw[hou]at g1;cases g1|false=>
  rw[hou]at g1;dsimp only at g1;obtain⟨p,k1,k2⟩:=bA.1 g1;simp only[bP,dB]at k2;obtain⟨rfl,esj,rfl⟩:=k2;rw[lj.1]at k1 esj;have hsfr:sj.fr=(bz (H.op rg j).take s).fr:=by rw[<-esj]
  have hslam:sj.lam=s.lam.set ix p.2:=by rw[<-esj]
  have hspu:sj.pushed=s.pushed:=by rw[<-esj];exact lj.2
  obtain⟨lv1,_⟩:=rr k1;have hft:=hfrt hsfr;rw[hx]at hft;have elam:(sj.put oj.dst p.1).lam=s.lam.set ix p.2:=by rw[hput.1,hslam]
  have epu:(sj.put oj.dst p.1).pushed=s.pushed:=by rw[hput.2,hspu]
  unfold iq at h2;rw[hft]at h2;dsimp only at h2;have hps:s.pushed=true:=by
   cases hp:s.pushed with|true=>rfl|false=>rw[epu,hp]at h2;cases h2
  have epu2:(sj.put oj.dst p.1).pushed=true:=by rw[epu,hps]
  rw[epu2]at h2;dsimp only at h2;obtain⟨_,h2⟩:=bR.1 h2;obtain⟨q',c5,lk⟩:=fin (X:={fr:=(sj.put oj.dst p.1).fr,lam:=(sj.put oj.dst p.1).lam.set ix .dead,pushed:=true}) (Y:={s with lam:=s.lam.set ix .dead}) (hag hsfr rfl rfl) (by simp only[elam,Du]) (by simp only[hps]) h2;refine⟨q',(zC hh).2 ?_,lk⟩;unfold iq;rw[hx,hps];dsimp only;rw[bD,mg.2 lv1,bH,<-c5];congr 2;exact FX rfl rfl hps.symm
 |cv cc=>
  rw[hx]at g1;simp only[strip]at g1;cases hou:(H.op rg j).outer with
  |false=>rw[hou]at g1;dsimp only at g1;obtain⟨cs,v1,g1⟩:=bA.1 g1;obtain⟨c',v2,v3⟩:=bA.1 g1;simp only[bP,dB]at v3;obtain⟨rfl,rfl,rfl⟩:=v3;have hft:=hfrt rfl;rw[hx]at hft;unfold iq at h2;rw[hft]at h2;dsimp only at h2;obtain⟨q,r1,_⟩:=bA.1 h2;cases cc<;>simp[iU,pU]at v1 r1
  |true=>
  rw[hou]at g1;dsimp only at g1;obtain⟨⟨lev,ix,off⟩,r1,g1⟩:=bA.1 g1;obtain⟨p,k1,k2⟩:=bA.1 g1;have key: ∀(X:S) (M:Mu),(fq P true ty p.1 λv=>some (v,X,M))=some (vj,X,M):=by
   intro X M;have:(fq P true ty p.1 λv=>some (v,X,M))=opt (fq P true ty p.1 λv=>some (v,bz (H.op rg j).take s,cx μ lev ix p.2)) λq=>some (q.1,X,M):=by rw[kK];rfl
   rw[this,k2];rfl
  have k3:=key (bz (H.op rg j).take s) (cx μ lev ix p.2);rw[k3]at k2;simp only[bP,dB,jW]at k2;obtain⟨rfl,rfl⟩:=k2;obtain⟨lv1,_⟩:=rr k1;have hin:=TL lv1;have hft:=hfrt rfl;rw[hx]at hft;unfold iq at h2;rw[hft]at h2;dsimp only at h2;rw[r1,cD]at h2;dsimp only at h2;obtain⟨_,h2⟩:=bR.1 h2;rw[vM]at h2;obtain⟨q',c5,lk⟩:=fin (Y:=s) (hag rfl rfl rfl) (by rw[hput.1,lj.1]) (by rw[hput.2,lj.2]) h2;refine⟨q',(zC hh).2 ?_,lk⟩;unfold iq;rw[hx];dsimp only;rw[r1,cD];dsimp only;rw[bD,mg.2 lv1,bH,c5]
 |osl _=>rw[hx]at g1;simp only[strip]at g1;cases hou:(H.op rg j).outer<;>rw[hou]at g1<;>cases g1|ost _=>rw[hx]at g1;simp only[strip]at g1;cases g1|stl _=>rw[hx]at g1;simp only[strip]at g1;cases g1|lsl _ _ _=>rw[hx]at g1;simp only[strip]at g1;cases g1|lclo _ _=>rw[hx]at g1;simp only[strip]at g1;cases g1|mloc _=>rw[hx]at g1;simp only[strip]at g1;cases g1|tloc _ _ _=>rw[hx]at g1;simp only[strip]at g1;cases g1|ltup _=>rw[hx]at g1;simp only[strip]at g1;cases g1
def MY {o:Oper}(h:qG o=true): ∃c fx,o.op= .call c/\c.callee= .value fx:=by unfold qG at h;grind
def W5 {i j:Nat}{s s1:S}{μ μ1:Mu}{oj oi:Oper}{q:CV×S×Mu}(hj:ops[j]? =some oj)(d1:nX (sS oj) (oi.looksAt ops)=true)(d2:nX (eF (H.op rg j) oj) (eF (H.op rg i) oi)=true)
 (hm:gX (fW (H.op rg j) oj) (fW (H.op rg i) oi)=true) (hq:xf (fW (H.op rg j) oj)=true) (hv:qG oi=true) (h1:gp P ρ H rg ops j s μ=some (s1,μ1)) (h2:kT P ρ (H.op rg i) oi s1 μ1=some (.inr q)):
 ∃q',kT P ρ (H.op rg i) oi s μ=some (.inr q')/\FV q q':=by
 obtain⟨c,fx,hop,hcl⟩:=MY hv;have hkj:fW (H.op rg j) oj≠ .all:=λe=>by rw[e]at hq;cases hq
 have hhi:(H.op rg i).hide=none:=by
  cases hh:(H.op rg i).hide with
  |none=>rfl|some t=>
   exfalso;have e:fW (H.op rg i) oi= .all:=by unfold fW;rw[hh]
   rw[e]at hm;revert hm;cases fW (H.op rg j) oj<;>simp[gX]
 rw[qk hj]at h1;obtain⟨⟨vj,sj,μj⟩,g1,e1⟩:=bA.1 h1;simp only[bP,dB]at e1;obtain⟨rfl,rfl⟩:=e1;obtain⟨Tj,kj,hTj,hkj',Ej⟩:=E5 (t:=s) (ν:=μ) (λ_ _=> .inl rfl) hkj g1;obtain⟨Lj,frj⟩:=(Ej s μ (λ_ _=> .inl rfl) (by cases fW (H.op rg j) oj<;>simp[gV,SameOb.refl])).left;have hsame:sj.pushed=s.pushed/\sj.lam=s.lam/\μj=μ:=by
  unfold sP at Lj;have:kj= .plain\/kj= .rd:=by
   rcases hkj' with e|e
   ·rw[e];revert hq;cases fW (H.op rg j) oj<;>simp[xf]
   simp_all
  grind
 obtain⟨p1,p2,rfl⟩:=hsame;have hput:=jU sj oj.dst vj;have hag1:AgR (H.op rg i) ops oi (sj.put oj.dst vj) s:=by
  intro u hu;have hnd:oj.dst≠some u:=λh=>iS d1 u (by simp[sS,h]) hu;rw[iD frj u];by_cases hw:u∈eF (H.op rg j) oj
  ·right;refine⟨?_,(sn hnd).symm⟩;cases hm:jH (H.op rg i).take u with|false=>rfl|true=>exact absurd (ml.2 (.inr (gw.1 hm))) (iS d2 u hw)
  ·obtain⟨n1,n2⟩:=gP hw hTj;exact .inl (fR n1 n2).symm
 have e0: ∀s μ,kT P ρ (H.op rg i) oi s μ=ma P ρ (H.op rg i) oi s μ:=λs μ=>by unfold kT qd;rw[hhi];rfl
 rw[e0]at h2 |-;rw[xl hop hcl hag1.ag (by rw[hput.1,p2]) (by rw[hput.2,p1]),h2];exact⟨_,rfl,rfl,rfl,rfl,rfl⟩
def ali {i j:Nat}{s s1 s2:S}{μ μ1 μ2:Mu}(hind:vH H rg ops j i=true)(h1:gp P ρ H rg ops j s μ=some (s1,μ1))(h2:gp P ρ H rg ops i s1 μ1=some (s2,μ2)):
 ∃t1 ν1,gp P ρ H rg ops i s μ=some (t1,ν1)/\gp P ρ H rg ops j t1 ν1=some (s2,μ2):=by
 unfold vH at hind;split at hind<;>try(cases hind;done)
 rename_i oj oi hj hi;simp only[cE,gO]at hind;obtain⟨⟨⟨d1,d2⟩,d3⟩,hm⟩:=hind;rcases hm with hm|hm
 rotate_left
 ·exact RR hj hi d1 d2 d3 hm h1 h2
 have hkj:fW (H.op rg j) oj≠ .all:=λe=>by rw[e]at hm;simp[gX]at hm
 have hki:fW (H.op rg i) oi≠ .all:=λe=>by rw[e]at hm;revert hm;cases fW (H.op rg j) oj<;>simp[gX]
 rw[qk hj]at h1;obtain⟨⟨vj,sj,μj⟩,g1,e1⟩:=bA.1 h1;simp only[bP,dB]at e1;obtain⟨rfl,rfl⟩:=e1;rw[qk hi]at h2;obtain⟨⟨vi,si,μi⟩,g2,e2⟩:=bA.1 h2;simp only[bP,dB]at e2;obtain⟨rfl,rfl⟩:=e2;obtain⟨Tj,kj,hTj,hkj',Ej⟩:=E5 (t:=s) (ν:=μ) (λ_ _=> .inl rfl) hkj g1;obtain⟨Ti,ki,hTi,hki',Ei⟩:=E5 (t:=sj.put oj.dst vj) (ν:=μj) (λ_ _=> .inl rfl) hki g2;have hcond0: ∀k:Kind,gV k s s μ μ:=λk=>by cases k<;>simp[gV,SameOb.refl]
 obtain⟨Lj,frj⟩:=(Ej s μ (λ_ _=> .inl rfl) (hcond0 _)).left;have hput:=jU sj oj.dst vj;have Lj':sP kj s (sj.put oj.dst vj) μ μj:=by unfold sP at Lj |-;simp_all
 have hahead:=Po hm hkj' hki';have hag1:AgR (H.op rg i) ops oi (sj.put oj.dst vj) s:=by
  intro u hu;have hnd:oj.dst≠some u:=λh=>iS d1 u (by simp[sS,h]) hu;rw[iD frj u];by_cases hw:u∈eF (H.op rg j) oj
  ·right;refine⟨?_,(sn hnd).symm⟩;cases hm:jH (H.op rg i).take u with|false=>rfl|true=>exact absurd (ml.2 (.inr (gw.1 hm))) (iS d2 u hw)
  ·obtain⟨n1,n2⟩:=gP hw hTj;exact .inl (fR n1 n2).symm
 have hc1:gV (fW (H.op rg i) oi) (sj.put oj.dst vj) s μj μ:=by refine Yk ?_ hki Lj';grind
 obtain⟨X,ν1,hX,frX,puX,memX,LX⟩:=(Ei s μ hag1 hc1).out;have hputX:=jU X oi.dst vi;have LX':sP ki s (X.put oi.dst vi) μ ν1:=by unfold sP at LX |-;simp_all
 have hag2:AgR (H.op rg j) ops oj s (X.put oi.dst vi):=by
  intro u hu;have hnd:oi.dst≠some u:=λh=>iS d3 u (by simp[sS,h]) hu;rw[iD frX u];by_cases hw:u∈eF (H.op rg i) oi
  ·right;refine⟨?_,sn hnd⟩;cases hm:jH (H.op rg j).take u with|false=>rfl|true=>exact absurd hw (iS d2 u (ml.2 (.inr (gw.1 hm))))
  ·obtain⟨n1,n2⟩:=gP hw hTi;exact .inl (fR n1 n2)
 have hc2:gV (fW (H.op rg j) oj) s (X.put oi.dst vi) μ ν1:=by refine abV (ki:=ki) ?_ hkj LX';grind
 obtain⟨Y,ν2,hY,frY,puY,memY,LY⟩:=(Ej _ _ hag2 hc2).out;refine⟨X.put oi.dst vi,ν1,by rw[qk hi,hX];rfl,?_⟩;rw[qk hj,hY];simp only[cD,bP,dB];have hputY:=jU Y oj.dst vj;have hputi:=jU si oi.dst vi;obtain⟨Li,fri⟩:=(Ei _ μj (λ_ _=> .inl rfl) (by cases fW (H.op rg i) oi<;>simp[gV,SameOb.refl])).left;have hmem:Y.lam=si.lam/\ν2=μi/\Y.pushed=si.pushed:=by
  rw[hput.1]at memX;rw[hputX.1]at memY;have p1:si.pushed=s.pushed:=by rw[Li.1,hput.2,Lj.1]
  have p2:Y.pushed=s.pushed:=by rw[puY,hputX.2,puX]
  obtain⟨m1,m2⟩:=ach hahead memX memY;simp_all
 refine⟨?_,hmem.2.1⟩;have hfr: ∀u,(Y.put oj.dst vj).fr u=(si.put oi.dst vi).fr u:=by
  intro u;rw[iD frY u,iD frX u,iD fri u,iD frj u];by_cases hu:u∈eF (H.op rg j) oj
  ·have hnw:=iS d2 u hu;obtain⟨n1,n2⟩:=gP hnw hTi;rw[fR n1 n2,fR n1 n2]
  ·obtain⟨n1,n2⟩:=gP hu hTj;rw[fR n1 n2,fR n1 n2]
 have e1:(Y.put oj.dst vj).fr=(si.put oi.dst vi).fr:=funext hfr;have e2:(Y.put oj.dst vj).lam=(si.put oi.dst vi).lam:=by rw[hputY.1,hputi.1];exact hmem.1
 have e3:(Y.put oj.dst vj).pushed=(si.put oi.dst vi).pushed:=by rw[hputY.2,hputi.2];exact hmem.2.2
 revert e1 e2 e3;generalize Y.put oj.dst vj=A;generalize si.put oi.dst vi=B;intro e1 e2 e3;cases A;cases B;simp only at e1 e2 e3;rw[e1,e2,e3]
end
section
variable {P:Program}{ρ:Rho}{H:Hints}{rg:Nat}{ops:Array Oper}{α:Type}
def kr (P:Program)(ρ:Rho)(H:Hints)(rg:Nat)(ops:Array Oper):List Nat->S->Mu->Option (S×Mu)
 |[],s,μ=>some (s,μ)|i::r,s,μ=>opt (gp P ρ H rg ops i s μ) λq=>kr P ρ H rg ops r q.1 q.2
def OL: ∀{l:List Nat} (hf: ∀i∈l,iW (H.op rg i)=true) {s:S} {μ:Mu} {k:S->Mu->Option α},
 gY P ρ H rg ops l s μ k (λ_ _ _=>none)=opt (kr P ρ H rg ops l s μ) λq=>k q.1 q.2
 |[],hf,s,μ,k=>by simp only[gY,kr,cD]|i::r,hf,s,μ,k=>by rw[aaE (hf i bE),kr,bY];congr;funext q;exact OL λj hj=>hf j (fw _ hj)
def Vu {i:Nat}: ∀{l:List Nat} {s:S} {μ:Mu} {out:S×Mu},l.Pairwise (· < ·)->i∈l->(∀j∈l,j<i->vH H rg ops j i=true)->kr P ρ H rg ops l s μ=some out->
 ∃q,gp P ρ H rg ops i s μ=some q/\kr P ρ H rg ops (l.erase i) q.1 q.2=some out
 |[],s,μ,out,hp,hi,hx,h=>by simp at hi|j::r,s,μ,out,hp,hi,hx,h=>by
  simp only[kr]at h;obtain⟨q,h1,h2⟩:=bA.1 h;by_cases hji:j=i
  ·simp_all
  ·have hir:i∈r:=by grind
   rw[Do]at hp;obtain⟨p,k1,k2⟩:=Vu hp.2 hir (λk hk hlt=>hx k (fw _ hk) hlt) h2;obtain⟨s1,μ1⟩:=q;obtain⟨s2,μ2⟩:=p;obtain⟨t1,ν1,m1,m2⟩:=ali (hx j bE (hp.1 i hir)) h1 k1;refine⟨(t1,ν1),m1,?_⟩;rw[List.erase_cons_tail (by simpa using hji)];simp only[kr];exact bA.2 ⟨_,m2,k2⟩
def yC {f:Nat->Bool}: ∀{n:Nat},H1 f n=true-> ∀i,i<n->f i=true
 |0,_,i,hi=>by omega|n+1,h,i,hi=>by
  simp only[H1]at h;split at h<;>try(cases h;done)
  rename_i hn;rcases fu i n with h1|h1
  ·exact yC h i h1
  grind
def TS {i:Nat}: ∀{l:List Nat},ltB i l=true-> ∀p∈l,p<i
 |[],_,p,hp=>by simp at hp|q::r,h,p,hp=>by
  simp only[ltB]at h;split at h<;>try(cases h;done)
  rename_i hq;rcases ed.1 hp with rfl|hp
  ·simp_all
  ·exact TS h p hp
def BL {rows:List (List Nat)}: ∀{l:List Nat} {j:Nat},j∈Ho rows l-> ∃p∈l,j=p\/j∈rows.getD p []
 |[],j,h=>by simp[Ho]at h|p::r,j,h=>by
  simp only[Ho,ed,gt]at h;rcases h with h|h|h
  ·simp_all
  ·simp_all
  ·obtain⟨q,h1,h2⟩:=BL h;grind
def g7: ∀n,(f7 ops n).length=n
 |0=>rfl|n+1=>by simp[f7,g7 n]
def F7 {n i:Nat}(h:i<n):(f7 ops (n+1)).getD i []=(f7 ops n).getD i []:=by simp only[f7,gi];rw[gK (by rw[g7];exact h)]
def zY (ops:Array Oper)(U:Nat->Prop):Prop:= ∀i,U i-> ∀p∈mm ops i,U p
def yE {U:Nat->Prop}(hU:zY ops U): ∀{n i j:Nat},i<n->j∈(f7 ops n).getD i []->U i->U j/\True
 |0,i,j,hi,_,_=>by omega|n+1,i,j,hi,hj,hui=>by
  rcases fu i n with h1|h1
  ·rw[F7 h1]at hj;exact yE hU h1 hj hui
  ·have:i=n:=bu;subst this;simp only[f7,gi]at hj;rw[jy (by rw[g7];exact ct _),g7]at hj;simp only[t8,ft,ia]at hj;obtain⟨p,hp,h2⟩:=BL hj;have hup:=hU i hui p hp;rcases h2 with rfl|h2
   ·simp_all
   ·rcases fu p i with h3|h3
    ·exact yE hU h3 h2 hup
    ·rw[gi,eB (by rw[g7];exact h3)]at h2;simp at h2
def F8 {U:Nat->Prop}(hU:zY ops U){n i j:Nat}(hi:i<n)(hp: ∀p∈mm ops i,U p)(hj:j∈(f7 ops n).getD i []):U j:=by
 induction n with
 |zero=>omega|succ n ih=>
  rcases fu i n with h1|h1
  ·rw[F7 h1]at hj;exact ih h1 hj
  ·have:i=n:=bu;subst this;simp only[f7,gi]at hj;rw[jy (by rw[g7];exact ct _),g7]at hj;simp only[t8,ft,ia]at hj;obtain⟨p,hpp,h2⟩:=BL hj;have hup:=hp p hpp;rcases h2 with rfl|h2
   ·exact hup
   ·rcases fu p i with h3|h3
    ·exact(yE hU h3 h2 hup).1
    ·rw[gi,eB (by rw[g7];exact h3)]at h2;simp at h2
def BK {i p:Nat}{o:Oper}(ho:ops[i]? =some o):p∈mm ops i↔ ∃e∈o.after,Region.binds .any e=true/\e.on=p:=by simp only[mm,ho,ph,List.mem_filter,Array.mem_toList_iff];grind
variable {W0:World}{L:Nat}{r:α}{Q:Exit->Act->World->Prop}
def Ee (hrho:iC P W0 ρ){i:Nat}(hf:iW (H.op rg i)=true){G:Gh}{w:World}{s s':S}{μ μ':Mu}{a:Act}{n:Nat}{ds:Keep}(hlt: ∀(i:Nat) (o:Oper),ops[i]? =some o-> ∀d,o.dst=some d->d<n/\ds.lets d)
 (hkn:Kn W0 w (bM G w s μ a.tmps)) (hds:ds.at a) (h:gp P ρ H rg ops i s μ=some (s',μ')) (R:Rel G L s μ a.tmps w) (hn:a.tmps.size=n) {K:Act->World->Prop}
 (hK: ∀a' w' G',Rel G' L s' μ' a'.tmps w'->Ext L (bM G w s μ a.tmps) G w G' w' (bM G' w' s' μ' a'.tmps)->a'.tmps.size=n->ds.at a'->K a' w'):wpOp P ops Q i K a w:=by
 unfold wpOp;simp only[gp]at h;cases ho:ops[i]? with
 |none=>rw[ho]at h;cases h|some o=>
  rw[ho]at h;simp only at h |-;have hlt': ∀d,o.dst=some d->d<a.tmps.size:=λd hd=>by rw[hn];exact(hlt i o ho d hd).1
  have hlt2: ∀(i:Nat) (o:Oper),ops[i]? =some o-> ∀d,o.dst=some d->d<a.tmps.size:=λi o ho d hd=>by rw[hn];exact(hlt i o ho d hd).1
  have run:(opt (lU P ρ (H.op rg i) o s μ) λq=>some (q.2.1.put o.dst q.1,q.2.2))=some (s',μ')->o.wp P a w K Q:=by
   intro h;have h2:opK P ρ (H.op rg i) o s μ (λv s μ=>some (s.put o.dst v,μ)) (λ_ _ _=>none)=some (s',μ'):=by rw[uL hf];exact h
   refine sk (L:=L) (G:=G) (r:=(s',μ')) (k:=λv s μ=>some (s.put o.dst v,μ)) (p:=λ_ _ _=>none) R hlt' ?_ ?_ hrho hkn h2
   ·intro v s1 μ1 cv w' G' he R' E';simp only[bP,dB]at he;obtain⟨rfl,rfl⟩:=he;exact hK _ w' G' R' E' (by rw[(oJ a o.dst cv).1];exact hn) (Keep.put hds λd hd=>(hlt i o ho d hd).2)
   ·intro v s1 μ1 pv w' G' he;cases he
  cases hg:o.guard with
  |none=>
   rw[hg]at h;have hw:Region.wanted o (yielded ops a.tmps)=true:=by simp[Region.wanted,hg]
   simp_all
  |some g=>
   rw[hg]at h;simp only at h;obtain⟨d,hd,h⟩:=bA.1 h;obtain⟨b,hb,h⟩:=bA.1 h;have hy:yielded ops a.tmps g.1=b:=by
    cases b with|none=>exact CD R hd hlt2 hb|some b=>exact HE R hd hlt2 (oA hb)
   obtain⟨j,want⟩:=g;simp only at hd hy h;split at h
   ·rename_i hbw;have hw:Region.wanted o (yielded ops a.tmps)=true:=by
     have:b=some want:=by simpa using hbw
     subst this;simp[Region.wanted,hg,hy]
    simp_all
   ·rename_i hbw;have hw: ¬Region.wanted o (yielded ops a.tmps)=true:=by
     have: ¬b=some want:=by simpa using hbw
     simp[Region.wanted,hg,hy,this]
    rw[bB hw];simp only[bP,dB]at h;obtain⟨rfl,rfl⟩:=h;obtain⟨R2,E2⟩:=R.skip o.dst hlt';exact hK _ w G R2 E2 (by rw[(oJ a o.dst undef).1];exact hn) (Keep.put hds λd hd=>(hlt i o ho d hd).2)
def CX (hdr:wV H rg ops=true): ∀i,i<ops.size->(∀p∈mm ops i,p<i)/\iW (H.op rg i)=true/\ ∀j,j<i->j∈(f7 ops ops.size).getD i []\/vH H rg ops j i=true:=by intro i hi;have:=yC hdr i hi;simp only[cE]at this;obtain⟨⟨h1,h2⟩,h3⟩:=this;refine⟨TS h1,h2,λj hj=> ?_⟩;have:=yC h3 j hj;simp only[gO]at this;exact this.imp gw.1 id
def Kb (hdr:wV H rg ops=true){l:List Nat}{listed:Array Bool}:listed.size=ops.size->l.Pairwise (· < ·)->(∀i,i∈l↔i<ops.size/\listed.getD i true=false)->Region.ready .any ops listed=[]->l=[]:=by
 intro hsz hp hl hr;have hok:=CX hdr;cases l with
 |nil=>rfl|cons m rest=>
  exfalso;rw[Do]at hp;obtain⟨hm1,hm2⟩:=(hl m).1 bE;have:m∈Region.ready .any ops listed:=by
   refine mem_ready.2 ⟨?_,ops[m],by simp[hm1],λe he hb=> ?_⟩
   ·omega
   ·have hpm:e.on∈mm ops m:=(BK (o:=ops[m]) (by simp[hm1])).2 ⟨e,he,hb,rfl⟩;grind
  simp_all
def X7 (hrho:iC P W0 ρ)(hdr:wV H rg ops=true){T:Nat->Prop}{G0:Gh}{w0:World}{n:Nat}{ds:Keep}{k:S->Mu->Option α}(hlt: ∀(i:Nat) (o:Oper),ops[i]? =some o-> ∀d,o.dst=some d->d<n/\ds.lets d)
 (hkn:Kn W0 w0 T) (hk:UB L G0 w0 T n ds k r Q): ∀(fuel:Nat) {l:List Nat} {listed:Array Bool} {G:Gh} {w:World} {s:S} {μ:Mu} {a:Act},
 l.length<=fuel->listed.size=ops.size->l.Pairwise (· < ·)->(∀i,i∈l↔i<ops.size/\listed.getD i true=false)->zY ops (λi=>listed.getD i false=true)->
 (opt (kr P ρ H rg ops l s μ) λq=>k q.1 q.2)=some r->Rel G L s μ a.tmps w->Ext L T G0 w0 G w (bM G w s μ a.tmps)->a.tmps.size=n->ds.at a->
 wpAny P .any ops Q fuel listed a w:=by
 have hok:=CX hdr;have hnil: ∀{l:List Nat} {listed:Array Bool} {G:Gh} {w:World} {s:S} {μ:Mu} {a:Act},l=[]->(opt (kr P ρ H rg ops l s μ) λq=>k q.1 q.2)=some r->Rel G L s μ a.tmps w->Ext L T G0 w0 G w (bM G w s μ a.tmps)->a.tmps.size=n->ds.at a->Q .normal a w:=by intro l listed G w s μ a hl h R E hn hds;subst hl;simp only[kr,cD]at h;exact hk s μ a w G h R E hn hds
 have hready:= @Kb H rg ops hdr;intro fuel
 induction fuel with
 |zero=>
  intro l listed G w s μ a hf hsz hp hl hcl h R E hn hds;have:l=[]:=List.length_eq_zero_iff.1 bu;refine⟨?_,hnil (listed:=listed) this h R E hn hds⟩;cases hr:Region.ready .any ops listed with
  |nil=>rfl|cons m rest=>
   exfalso;have hm:m∈Region.ready .any ops listed:=by rw[hr];simp
   obtain⟨h1,o,ho,_⟩:=mem_ready.1 hm;have hlt:m<ops.size:=(sD.1 ho).1;have:=(hl m).2 ⟨hlt,by simp[ex,hsz,hlt]at h1 |-; exact h1⟩;subst l;simp at this
 |succ fuel ih=>
  intro l listed G w s μ a hf hsz hp hl hcl h R E hn hds;refine⟨λhr=>hnil (listed:=listed) (hready hsz hp hl hr) h R E hn hds,λi hi=> ?_⟩;obtain⟨h1,o,ho,hall⟩:=mem_ready.1 hi;have hlti:i<ops.size:=(sD.1 ho).1;have hun:listed.getD i true=false:=by simp[ex,hsz,hlti]at h1 |-; exact h1
  have hil:i∈l:=(hl i).2 ⟨hlti,hun⟩;have hpl: ∀p∈mm ops i,listed.getD p false=true:=by intro p hp;obtain⟨e,he,hb,rfl⟩:=(BK ho).1 hp;exact hall e he hb
  obtain⟨out,h2,h3⟩:=bA.1 h;have hind: ∀j∈l,j<i->vH H rg ops j i=true:=by
   intro j hj hji;rcases(hok i hlti).2.2 j hji with hanc|hx
   ·exfalso;have hu:=F8 hcl hlti hpl hanc;obtain⟨hj1,hj2⟩:=(hl j).1 hj;have hj3:j<listed.size:=bu;simp[ex,hj3]at hu hj2;rw[hu]at hj2;cases hj2
   ·exact hx
  obtain⟨⟨s1,μ1⟩,k1,k2⟩:=Vu hp hil hind h2;refine Ee hrho (hok i hlti).2.1 hlt (hkn.ext E) hds k1 R hn λa' w' G' R' E' hn' hd'=> ?_;refine ih (l:=l.erase i) ?_ (by simp[hsz]) (hp.sublist List.erase_sublist) (λj=> ?_) ?_ (bA.2 ⟨out,k2,h3⟩) R' (E.trans E') hn' hd'
  ·rw[List.length_erase_of_mem hil];omega
  ·have hnd:l.Nodup:=hp.imp λh=>Dv h;rw[hnd.mem_erase_iff,hl];constructor
   ·rintro⟨h1,h2,h3⟩;exact⟨h2,by rw[ub true (uc h1)];exact h3⟩
   ·rintro⟨h2,h3⟩;by_cases hji:j=i
    ·subst hji;simp[ex,hsz,hlti]at h3
    ·exact⟨hji,h2,by rw[ub true (uc hji)]at h3;exact h3⟩
  ·intro j hj p hp;by_cases hji:j=i
   ·subst hji;exact Dt (hpl p hp)
   ·rw[ub false (uc hji)]at hj;exact Dt (hcl j hj p hp)
def aaD {i:Nat}{rest:List Nat}(hf:iW (H.op rg i)=true){o:Oper}(ho:ops[i]? =some o)(hm:lR o=false){s:S}{μ:Mu}{k:S->Mu->Option α}{p:CV->S->Mu->Option α}:
 gY P ρ H rg ops (i::rest) s μ k p=opt (gp P ρ H rg ops i s μ) λq=>gY P ρ H rg ops rest q.1 q.2 k p:=by
 simp only[gY,gp,ho];cases o.guard with
 |none=>dsimp only;rw[OJ hm (p':=λ_ _ _=>none),uL hf,bY];rfl|some g=>
  dsimp only;simp only[bY];congr;funext d;cases hq:ip (s.fr d)with
  |none=>rfl|some q=>
   cases q with
   |none=>rfl|some b=>simp only[cD];have hb:=oA hq;have hd:=jF hb;obtain⟨j,want⟩:=g;cases b<;>cases want<;>simp only[bH,bI,S.set_self s d _ hd,OJ hm (p:=p) (p':=λ_ _ _=>none),uL hf,bY,cD,beq_self_eq_true]<;>rfl
def B9 {c:Nat}{oc:Oper}(hc:ops[c]? =some oc)(hg:oc.guard=none){k:S->Mu->Option α}{p:CV->S->Mu->Option α}: ∀{l:List Nat} (hf: ∀i∈l,iW (H.op rg i)=true/\(i≠c-> ∀o,ops[i]? =some o->lR o=false)) {s:S} {μ:Mu},
 l.Pairwise (· < ·)->gY P ρ H rg ops l s μ k p=some r->(opt (kr P ρ H rg ops l s μ) λq=>k q.1 q.2)=some r\/
  ∃l1 l2 s1 μ1 q,l=l1++c::l2/\kr P ρ H rg ops l1 s μ=some (s1,μ1)/\kT P ρ (H.op rg c) oc s1 μ1=some (.inr q)/\p q.1 q.2.1 q.2.2=some r
 |[],hf,s,μ,hp,h=>by simp only[gY]at h;left;simpa only[kr,cD]using h|i::l,hf,s,μ,hp,h=>by
  rw[Do]at hp;obtain⟨f1,f2⟩:=hf i bE;have hf': ∀j∈l,iW (H.op rg j)=true/\(j≠c-> ∀o,ops[j]? =some o->lR o=false):=λj hj=>hf j (fw _ hj);by_cases hic:i=c
  ·subst hic;simp only[gY,hc,hg]at h;rw[aee f1]at h;obtain⟨e,h1,h2⟩:=bA.1 h;cases e with
   |inl q=>
    simp only[lg]at h2;rcases B9 hc hg hf' hp.2 h2 with h3|⟨l1,l2,s1,μ1,q1,h3,_⟩
    ·left;simp only[kr,gp,hc,hg];rw[afR,h1];simpa only[lg,cD]using h3
    ·exfalso;have:i∈l:=by rw[h3];simp
     have:=hp.1 i this;omega
   |inr q=>exact .inr ⟨[],l,s,μ,q,rfl,rfl,h1,h2⟩
  ·cases ho:ops[i]? with
   |none=>simp only[gY,ho]at h;cases h|some o=>
    rw[aaD f1 ho (f2 hic o ho)]at h;obtain⟨q,h1,h2⟩:=bA.1 h;rcases B9 hc hg hf' hp.2 h2 with h3|⟨l1,l2,s1,μ1,q1,h3,h4,h5,h6⟩
    ·left;simp only[kr];rw[h1];exact h3
    ·refine .inr ⟨i::l1,l2,s1,μ1,q1,by rw[h3];rfl,?_,h5,h6⟩;simp only[kr];rw[h1];exact h4
def D9 {c:Nat}{oc:Oper}(hc:ops[c]? =some oc)(hv:qG oc=true): ∀{l1:List Nat} {s s1:S} {μ μ1:Mu} {q:CV×S×Mu},(∀j∈l1,∃oj,ops[j]? =some oj/\nX (sS oj) (oc.looksAt ops)=true/\nX (eF (H.op rg j) oj) (eF (H.op rg c) oc)=true/\(gX (fW (H.op rg j) oj) (fW (H.op rg c) oc)=true/\xf (fW (H.op rg j) oj)=true\/pV (H.op rg j) oj (H.op rg c) oc=true))->
 kr P ρ H rg ops l1 s μ=some (s1,μ1)->kT P ρ (H.op rg c) oc s1 μ1=some (.inr q)-> ∃q',kT P ρ (H.op rg c) oc s μ=some (.inr q')/\FV q q'
 |[],s,s1,μ,μ1,q,hl,h1,h2=>by simp only[kr,bP,dB]at h1;obtain⟨rfl,rfl⟩:=h1;exact⟨q,h2,rfl,rfl,rfl,rfl⟩
 |j::l,s,s1,μ,μ1,q,hl,h1,h2=>by
  simp only[kr]at h1;obtain⟨⟨sa,μa⟩,h3,h4⟩:=bA.1 h1;obtain⟨qa,h5,a1,a2,a3,a4⟩:=D9 hc hv (λj hj=>hl j (fw _ hj)) h4 h2;obtain⟨oj,k1,k2,k3,k4⟩:=hl j bE;obtain⟨qb,h6,b1,b2,b3,b4⟩: ∃q',kT P ρ (H.op rg c) oc s μ=some (.inr q')/\FV qa q':=by
   rcases k4 with⟨m1,m2⟩|k4
   ·exact W5 k1 k2 k3 m1 m2 hv h3 h5
   ·exact W4 k1 k2 k3 k4 h3 h5
  exact⟨qb,h6,b1.trans a1,b2.trans a2,b3.trans a3,b4.trans a4⟩
def Hv: ∀{n:Nat},Db H rg ops n=true-> ∃c,Hu H rg ops c=true
 |0,h=>by cases h|n+1,h=>by
  simp only[Db]at h;split at h
  ·grind
  ·exact Hv h
def RO {c:Nat}(h:Hu H rg ops c=true): ∃oc,ops[c]? =some oc/\oc.guard=none/\qG oc=true/\ ∀j o,ops[j]? =some o->j≠c->lR o=false/\
 (j<c->j∈(f7 ops ops.size).getD c []\/xf (fW (H.op rg j) o)=true\/pV (H.op rg j) o (H.op rg c) oc=true)/\(c<j->c∈(f7 ops ops.size).getD j []):=by
 unfold Hu at h;split at h<;>try(cases h;done)
 rename_i y hy;split at h<;>try(cases h;done)
 rename_i hg;rw[cE]at h;refine⟨y,hy,hg,h.1,λj o ho hne=> ?_⟩;have:=yC h.2 j (sD.1 ho).1;rw[ho]at this;simp only[gO,cE,iL]at this;rcases this with h1|⟨h1,h2⟩
 ·simp_all
 ·refine⟨h1,λhlt=> ?_,λhlt=> ?_⟩
  ·rw[show Nat.blt j c=true by simpa[pj]using hlt]at h2;simp only[gO]at h2;exact h2.imp gw.1 id
  ·rw[show Nat.blt j c=false by rw[Bool.eq_false_iff];intro hb;rw[pj]at hb;omega]at h2;exact gw.1 h2
def X6 (hrho:iC P W0 ρ)(hdr:wV H rg ops=true){c:Nat}{oc:Oper}(hc:ops[c]? =some oc)(hg:oc.guard=none)(hv:qG oc=true)
 (hsole: ∀j o,ops[j]? =some o->j≠c->lR o=false/\(j<c->j∈(f7 ops ops.size).getD c []\/xf (fW (H.op rg j) o)=true\/pV (H.op rg j) o (H.op rg c) oc=true)/\(c<j->c∈(f7 ops ops.size).getD j []))
 {T:Nat->Prop} {G0:Gh} {w0:World} {n:Nat} {ds:Keep} {p:CV->S->Mu->Option α} (hlt: ∀(i:Nat) (o:Oper),ops[i]? =some o-> ∀d,o.dst=some d->d<n/\ds.lets d)
 (hkn:Kn W0 w0 T) (hpk:HY L G0 w0 T n ds p r Q) (hpf: ∀v s s' μ,s'.lam=s.lam->s'.pushed=s.pushed->p v s' μ=p v s μ): ∀(fuel:Nat) {l1 l2:List Nat} {listed:Array Bool} {G:Gh} {w:World} {s s1:S} {μ μ1:Mu} {a:Act} {q:CV×S×Mu},
 (l1++c::l2).length<=fuel->listed.size=ops.size->(l1++c::l2).Pairwise (· < ·)->(∀i,i∈l1++c::l2↔i<ops.size/\listed.getD i true=false)->zY ops (λi=>listed.getD i false=true)->
 kr P ρ H rg ops l1 s μ=some (s1,μ1)->kT P ρ (H.op rg c) oc s1 μ1=some (.inr q)->p q.1 q.2.1 q.2.2=some r->Rel G L s μ a.tmps w->Ext L T G0 w0 G w (bM G w s μ a.tmps)->a.tmps.size=n->ds.at a->
 wpAny P .any ops Q fuel listed a w:=by
 have hok:=CX hdr;intro fuel
 induction fuel with
 |zero=>intro l1 l2 listed G w s s1 μ μ1 a q hf;simp at hf|succ fuel ih=>
  intro l1 l2 listed G w s s1 μ μ1 a q hf hsz hp hl hcl h2 h3 h4 R E hn hds;refine⟨λhr=>absurd (Kb hdr hsz hp hl hr) bE,λi hi=> ?_⟩;obtain⟨h1,o,ho,hall⟩:=mem_ready.1 hi;have hlti:i<ops.size:=(sD.1 ho).1;have hun:listed.getD i true=false:=by simp[ex,hsz,hlti]at h1 |-; exact h1
  have hil:i∈l1++c::l2:=(hl i).2 ⟨hlti,hun⟩;have hpl: ∀p∈mm ops i,listed.getD p false=true:=by intro p hp;obtain⟨e,he,hb,rfl⟩:=(BK ho).1 hp;exact hall e he hb
  have hanc: ∀j∈l1++c::l2,j ∉(f7 ops ops.size).getD i []:=by intro j hj hanc;have hu:=F8 hcl hlti hpl hanc;obtain⟨hj1,hj2⟩:=(hl j).1 hj;have hj3:j<listed.size:=bu;simp[ex,hj3]at hu hj2;rw[hu]at hj2;cases hj2
  have hind: ∀j∈l1++c::l2,j<i->vH H rg ops j i=true:=λj hj hji=>((hok i hlti).2.2 j hji).resolve_left (hanc j hj);have hcm:c∈l1++c::l2:=bE;by_cases hic:i=c
  ·subst hic;have hlt1: ∀j∈l1,j<i:=λj hj=>(I7.1 hp).2.2 j hj i bE
   obtain ⟨q', k1, b1, b2, b3, b4⟩ := D9 hc hv (λj hj => by
    have hji:=hlt1 j hj;have hjm:j∈l1++i::l2:=by simp[hj]
    have hx:=hind j hjm hji;have hj1:=((hl j).1 hjm).1;have hoj:ops[j]? =some ops[j]:=by simp[hj1]
    unfold vH at hx;rw[hoj,hc]at hx;simp only[cE,gO]at hx;refine⟨_,hoj,hx.1.1.1,hx.1.1.2,?_⟩;rcases((hsole j _ hoj bu).2.1 hji).resolve_left (hanc j hjm)with hq|hq
    ·exact hx.2.imp (λh=>⟨h,hq⟩) id
    ·exact .inr hq) h2 h3
   have hop:opK P ρ (H.op rg i) oc s μ (λ_ _ _=>none) p=some r:=by rw[aee (hok i hlti).2.1,k1];simp only[cD,lg];rw[b1,b4,hpf _ _ _ _ b2 b3];exact h4
   unfold wpOp;rw[hc];dsimp only;rw[bC (by simp[Region.wanted,hg])];refine .inl (sk (L:=L) (G:=G) (r:=r) (k:=λ_ _ _=>none) (p:=p) R (λd hd=>by rw[hn];exact(hlt i oc hc d hd).1) ?_ ?_ hrho (hkn.ext E) hop)
   ·intro v s1 μ1 cv w' G' he;cases he
   ·intro v s1 μ1 pv w' G' he R' hv E';exact hpk v s1 μ1 pv a w' G' he R' hv (E.trans E') hn hds
  ·have hi1:i∈l1:=by
    rcases gt.1 hil with h|h
    ·exact h
    ·exfalso;rcases ed.1 h with h|h
     ·exact hic h
     ·have hci:c<i:=(Do.1 (I7.1 hp).2.1).1 i h;exact hanc c hcm ((hsole i o ho hic).2.2 hci)
   obtain⟨⟨sa,μa⟩,k1,k2⟩:=Vu (I7.1 hp).1 hi1 (λj hj hlt=>hind j (by simp[hj]) hlt) h2;have her:(l1++c::l2).erase i=l1.erase i++c::l2:=List.erase_append_left _ hi1;refine Ee hrho (hok i hlti).2.1 hlt (hkn.ext E) hds k1 R hn λa' w' G' R' E' hn' hd'=> ?_;refine ih (l1:=l1.erase i) (l2:=l2) ?_ (by simp[hsz]) (by rw[<-her];exact hp.sublist List.erase_sublist) (λj=> ?_) ?_ k2 h3 h4 R' (E.trans E') hn' hd'
   ·rw[<-her,List.length_erase_of_mem hil];omega
   ·have hnd:(l1++c::l2).Nodup:=hp.imp λh=>Dv h;rw[<-her,hnd.mem_erase_iff,hl];constructor
    ·rintro⟨h1,h2,h3⟩;exact⟨h2,by rw[ub true (uc h1)];exact h3⟩
    ·rintro⟨h2,h3⟩;by_cases hji:j=i
     ·subst hji;simp[ex,hsz,hlti]at h3
     ·exact⟨hji,h2,by rw[ub true (uc hji)]at h3;exact h3⟩
   ·intro j hj p hp;by_cases hji:j=i
    ·subst hji;exact Dt (hpl p hp)
    ·rw[ub false (uc hji)]at hj;exact Dt (hcl j hj p hp)
def PF (hrho:iC P W0 ρ)(hm:P.follows .mixedOrders=true)(hdr:wV H rg ops=true){T:Nat->Prop}{G0 G:Gh}{w0 w:World}{n:Nat}{ds:Keep}{s:S}{μ:Mu}{a:Act}{k:S->Mu->Option α}{p:CV->S->Mu->Option α}{id:Nat}
 (hlt: ∀(i:Nat) (o:Oper),ops[i]? =some o-> ∀d,o.dst=some d->d<n/\ds.lets d) (hkn:Kn W0 w0 T) (hk:UB L G0 w0 T n ds k r Q)
 (hpn:(∀v s μ,p v s μ=none)\/Db H rg ops ops.size=true/\HY L G0 w0 T n ds p r Q/\ ∀v s s' μ,s'.lam=s.lam->s'.pushed=s.pushed->p v s' μ=p v s μ)
 (h:gY P ρ H rg ops (List.range ops.size) s μ k p=some r) (R:Rel G L s μ a.tmps w) (E:Ext L T G0 w0 G w (bM G w s μ a.tmps)) (hn:a.tmps.size=n) (hds:ds.at a):
 (Code.region id ops true).wp P Q a w:=by
 refine wp_region_any hm ?_;have hnf: ∀i∈List.range ops.size,iW (H.op rg i)=true:=λi hi=>(CX hdr i (by simpa using hi)).2.1;obtain⟨R',hO⟩:=R.drew
 have E' : Ext L T G0 w0 G w.drew (bM G w.drew s μ a.tmps) := E.trans ⟨⟨λ_ _ _ h hb => ⟨h, hb⟩, λ_ _ h => ⟨h, rfl, rfl⟩, λ_ _ _ h hc => ⟨h, hc⟩, λb cur e fz h => ⟨cur, fz, h, rfl⟩⟩, rfl, rfl, rfl, ct _, λ_ _ _ => ⟨rfl, rfl⟩, λb hb => .inl (by
  rcases hb with⟨l,hb⟩|hb
  ·exact .inl ⟨l,hO l b hb⟩
  ·exact .inr hb),λ_ _=>⟨λ_=>⟨rfl,rfl⟩,rfl⟩⟩
 have hmem: ∀i,i∈List.range ops.size↔i<ops.size/\(Array.replicate ops.size false).getD i true=false:=λi=>by simp_all
 have hcl:zY ops (λi=>(Array.replicate ops.size false).getD i false=true):=λi hi=>by grind
 have norm:(opt (kr P ρ H rg ops (List.range ops.size) s μ) λq=>k q.1 q.2)=some r->wpAny P .any ops Q ops.size (Array.replicate ops.size false) a w.drew:=λh=>
  X7 (L:=L) (w:=w.drew) hrho hdr hlt hkn hk ops.size bE bE I3 hmem hcl h R' E' hn hds
 rcases hpn with hpn|⟨hso,hpk,hpf⟩
 ·obtain rfl:p=λ_ _ _=>none:=by funext v s μ;exact hpn v s μ
  rw[OL hnf]at h;exact norm h
 ·obtain⟨c,hc⟩:=Hv hso;obtain⟨oc,hc,hg,hv,hsole⟩:=RO hc;rcases B9 hc hg (λi hi=>⟨hnf i hi,λhne o ho=>(hsole i o ho hne).1⟩) I3 h with h|⟨l1,l2,s1,μ1,q,e,h1,h2,h3⟩
  ·exact norm h
  ·refine X6 (L:=L) (w:=w.drew) hrho hdr hc hg hv hsole hlt hkn hpk hpf ops.size (l1:=l1) (l2:=l2) ?_ bE ?_ ?_ hcl h1 h2 h3 R' E' hn hds
   ·grind
   ·rw[<-e];exact I3
   simp_all
end
def ry (l:Lam): ∀(n:Nat) (todo acc:List Nat),acc.Nodup->(vS l n todo acc).Nodup
 |0,_,acc,h=>by simpa[vS]using h|n+1,[],acc,h=>by simpa[vS]using h|n+1,i::todo,acc,h=>by
  simp only[vS];split
  ·exact ry l n todo acc h
  ·rename_i hm;have hni:i ∉ acc:=λhi=>by rw[gw.2 hi]at hm;cases hm
   have h2:(acc++[i]).Nodup:=by grind
   split
   ·exact ry l n _ _ h2
   ·exact ry l n _ _ h2
def pW: ∀{m:List Nat} {n i j:Nat},vG m n i=some j->n<=j/\m[j-n]? =some i
 |[],n,i,j,h=>by simp[vG]at h|a::r,n,i,j,h=>by
  simp only[vG]at h;split at h
  ·simp_all
  ·obtain⟨h1,h2⟩:=pW h;grind
def Gh.order (G:Gh)(L:Nat)(m:List Nat):Gh where
 O:=G.O
 β:=λl j=>if l=L then G.β L (m.getD j 0)else G.β l j
 n:=G.n
 sz:=λl j=>if l=L then G.sz L (m.getD j 0)else G.sz l j
section
variable {G:Gh}{w:World}{L:Nat}{μ:Mu}{tm:Array Value}{s:S}
def Rel.refr (R:Rel G L s μ tm w){fr':Fr}(hf: ∀t,LVR G w L s.lam.length (fr' t) (tm.getD t undef)/\ ∀b,b6 (fr' t) (tm.getD t undef) b->b6 (s.fr t) (tm.getD t undef) b):
 Rel G L {s with fr:=fr'} μ tm w/\(∀l b,bK G w fr' tm (μ++[s.lam]) l b->bK G w s.fr tm (μ++[s.lam]) l b):=by
 have hown: ∀l b,bK G w fr' tm (μ++[s.lam]) l b->bK G w s.fr tm (μ++[s.lam]) l b:=by
  intro l b h;cases l with|fr t=>exact(hf t).2 b h|ob lev i k=>exact h
 exact⟨⟨R.lev,λt=>(hf t).1,R.lam,R.mu,R.inj,λl l' b h h'=>R.own l l' b (hown l b h) (hown l' b h'),λl b lev i h h'=>R.apart l b lev i (hown l b h) h',R.nlt,R.nL,R.ngt⟩,hown⟩
def Es (m:List Nat)(h0:G.n L=0):Le G w (G.order L m) w:=by
 refine⟨λ_ _ _ h hb=>⟨h,hb⟩,λlev i h=> ?_,λ_ _ _ h hc=>⟨h,hc⟩,λb cur e fz h=>⟨cur,fz,h,rfl⟩⟩;have hne:lev≠L:=λe=>by subst e;omega
 simp only[Gh.order,hne,du,nT,ka];exact h
mutual
def qg {m:List Nat}{nl:Nat}(h0:G.n L=0): ∀{x y:LV} {v:Value},jm m x=some y->LVR G w L nl x v->LVR (G.order L m) w L m.length y v/\(∀b,b6 y v b↔b6 x v b)/\(vI x=false->vI y=false)
 | .cv c,y,v,hr,h=>by simp only[jm,bP]at hr;subst hr;refine⟨?_,λb=>pm,λ_=>by simp⟩;simp only[LVR]at h |-;exact de (Es m h0) c v h| .osl xs,y,v,hr,h=>by simp only[jm,bP]at hr;subst hr;refine⟨?_,λb=>pm,λh=>h⟩;simp only[LVR]at h |-;exact pr (Es m h0) (λ_ _ _ _=>⟨rfl,rfl⟩) h| .ost xs,y,v,hr,h=>by simp only[jm,bP]at hr;subst hr;refine⟨?_,λb=>pm,λh=>h⟩;simp only[LVR]at h |-;exact Ae (λ_ _ _ _=>⟨rfl,rfl⟩) h| .stl n,y,v,hr,h=>by simp only[jm,bP]at hr;subst hr;exact⟨by simpa[LVR]using h,λb=>pm,λh=>h⟩| .loc i off,y,v,hr,h=>by
  simp only[jm]at hr;obtain⟨j,hj,hr⟩:=bA.1 hr;simp only[bP]at hr;subst hr;obtain⟨_,hm⟩:=pW hj;simp only[ua]at hm;have hlt:j<m.length:=(dP.1 hm).1;have hgd:m.getD j 0=i:=by rw[gi,hm];rfl
  simp only[LVR]at h |-;exact⟨⟨hlt,by simp only[Gh.order,cQ,hgd];exact h.2⟩,λb=>by simp[b6],λ_=>by simp⟩
 | .lsl i off len,y,v,hr,h=>by
  simp only[jm]at hr;obtain⟨j,hj,hr⟩:=bA.1 hr;simp only[bP]at hr;subst hr;obtain⟨_,hm⟩:=pW hj;simp only[ua]at hm;have hlt:j<m.length:=(dP.1 hm).1;have hgd:m.getD j 0=i:=by rw[gi,hm];rfl
  simp only[LVR]at h |-;refine⟨⟨hlt,?_⟩,λb=>by simp[b6],λ_=>by simp⟩;simp only[Gh.order,cQ,hgd];exact h.2
 | .lclo f caps,y,v,hr,h=>by simp only[jm]at hr;obtain⟨l,hl,hr⟩:=bA.1 hr;simp only[bP]at hr;subst hr;simp only[LVR]at h |-;obtain⟨vs,e,hv⟩:=h;exact⟨⟨vs,e,wm h0 hl hv⟩,λb=>by simp[b6],λ_=>by simp⟩
 | .ltup xs,y,v,hr,h=>by simp only[jm]at hr;obtain⟨l,hl,hr⟩:=bA.1 hr;simp only[bP]at hr;subst hr;simp only[LVR]at h |-;obtain⟨vs,e,hv⟩:=h;exact⟨⟨vs,e,wm h0 hl hv⟩,λb=>by simp[b6],λ_=>by simp⟩
 | .mloc i,y,v,hr,h=>by
  simp only[jm]at hr;obtain⟨j,hj,hr⟩:=bA.1 hr;simp only[bP]at hr;subst hr;obtain⟨_,hm⟩:=pW hj;simp only[ua]at hm;have hlt:j<m.length:=(dP.1 hm).1;have hgd:m.getD j 0=i:=by rw[gi,hm];rfl
  simp only[LVR]at h |-;exact⟨⟨hlt,by simp only[Gh.order,cQ,hgd];exact h.2⟩,λb=>by simp[b6],λ_=>by simp⟩
 | .tloc i t n,y,v,hr,h=>by
  simp only[jm]at hr;obtain⟨j,hj,hr⟩:=bA.1 hr;simp only[bP]at hr;subst hr;obtain⟨_,hm⟩:=pW hj;simp only[ua]at hm;have hlt:j<m.length:=(dP.1 hm).1;have hgd:m.getD j 0=i:=by rw[gi,hm];rfl
  simp only[LVR]at h |-;exact⟨⟨hlt,by simp only[Gh.order,cQ,hgd];exact h.2⟩,λb=>by simp[b6],λ_=>by simp⟩
def wm {m:List Nat}{nl:Nat}(h0:G.n L=0): ∀{xs ys:List LV} {vs:List Value},iZ m xs=some ys->en G w L nl xs vs->en (G.order L m) w L m.length ys vs
 |[],ys,vs,hr,h=>by simp only[iZ,bP]at hr;subst hr;simpa[en]using h|x::xs,ys,vs,hr,h=>by simp only[iZ]at hr;obtain⟨y,h1,hr⟩:=bA.1 hr;obtain⟨l,h2,hr⟩:=bA.1 hr;simp only[bP]at hr;subst hr;simp only[en]at h |-;obtain⟨v,vr,e,h3,h4,h5⟩:=h;obtain⟨k1,k2,k3⟩:=qg h0 h1 h4;exact⟨v,vr,e,k3 h3,k1,wm h0 h2 h5⟩
end
def wj {m:List Nat}: ∀{xs ys:List LV},iZ m xs=some ys->ys.length=xs.length/\ ∀(j:Nat) y,ys[j]? =some y-> ∃x,xs[j]? =some x/\jm m x=some y
 |[],ys,h=>by simp only[iZ,bP]at h;subst h;exact⟨rfl,λj y hy=>by simp at hy⟩|x::xs,ys,h=>by simp only[iZ]at h;obtain⟨y,h1,h⟩:=bA.1 h;obtain⟨r,h2,h⟩:=bA.1 h;simp only[bP]at h;subst h;obtain⟨h3,h4⟩:=wj h2;grind
inductive ObRen (m:List Nat):Ob->Ob->Prop where
 |dead:ObRen m .dead .dead|arr {sz cs}:ObRen m (.arr sz cs) (.arr sz cs)|map {ks vs}:ObRen m (.map ks vs) (.map ks vs)|cells {cs ds}:iZ m cs=some ds->ObRen m (.cells cs) (.cells ds)
def l6 {m:List Nat}: ∀{l l':List Ob},iF m l=some l'->l'.length=l.length/\ ∀i,ObRen m (bU l i) (bU l' i)
 |[],l',h=>by simp only[iF,bP]at h;subst h;exact⟨rfl,λi=>by simp only[bU,List.getElem?_nil];exact .dead⟩| .dead::l,l',h=>by
  simp only[iF]at h;obtain⟨r,h1,h⟩:=bA.1 h;simp only[bP]at h;subst h;obtain⟨h2,h3⟩:=l6 h1;refine⟨by simp[h2],λi=> ?_⟩;cases i with|zero=>exact .dead|succ i=>exact h3 i
 | .arr sz cs::l,l',h=>by
  simp only[iF]at h;obtain⟨r,h1,h⟩:=bA.1 h;simp only[bP]at h;subst h;obtain⟨h2,h3⟩:=l6 h1;refine⟨by simp[h2],λi=> ?_⟩;cases i with|zero=>exact .arr|succ i=>exact h3 i
 | .map ks vs::l,l',h=>by
  simp only[iF]at h;obtain⟨r,h1,h⟩:=bA.1 h;simp only[bP]at h;subst h;obtain⟨h2,h3⟩:=l6 h1;refine⟨by simp[h2],λi=> ?_⟩;cases i with|zero=>exact .map|succ i=>exact h3 i
 | .cells cs::l,l',h=>by
  simp only[iF]at h;obtain⟨ds,h0,h⟩:=bA.1 h;obtain⟨r,h1,h⟩:=bA.1 h;simp only[bP]at h;subst h;obtain⟨h2,h3⟩:=l6 h1;refine⟨by simp[h2],λi=> ?_⟩;cases i with|zero=>exact .cells h0|succ i=>exact h3 i
def ObRen.live {m:List Nat}{o o':Ob}(h:ObRen m o o'):b8 o'↔b8 o:=by cases h<;>exact pm
def Zg {m:List Nat}{l:Lam}{j:Nat}(h:b8 (bU (m.map (bU l)) j)):j<m.length/\bU (m.map (bU l)) j=bU l (m.getD j 0):=by
 have hj:=lO h;simp only[ly]at hj;refine⟨hj,?_⟩;have e:(m.map (bU l))[j]? =some (bU l (m.getD j 0)):=by simp_all
 simp only[bU,e]
def Rel.reorder (R:Rel G L s μ tm w)(hp:s.pushed=false){m:List Nat}(hm:m.Nodup){fr':Fr}{l':Lam}(hf: ∀t,jm m (s.fr t)=some (fr' t))(hl:iF m (m.map (bU s.lam))=some l'):
 Rel (G.order L m) L {fr:=fr',lam:=l',pushed:=false} μ tm w/\Ext L (bM G w s μ tm) G w (G.order L m) w (bM (G.order L m) w {fr:=fr',lam:=l',pushed:=false} μ tm):=by
 have hμ:=R.lev;have h0:G.n L=0:=by have:=R.nL;rw[hp]at this;simpa using this
 have hle:Le G w (G.order L m) w:=Es m h0;obtain⟨hll,hlg⟩:=l6 hl;have hll':l'.length=m.length:=by rw[hll];simp
 have eL: ∀i,bT (μ++[s.lam]) L i=bU s.lam i:=λi=>by rw[<-hμ];exact db
 have eL': ∀i,bT (μ++[l']) L i=bU l' i:=λi=>by rw[<-hμ];exact db
 have hβ: ∀lev i,lev≠L->(G.order L m).β lev i=G.β lev i:=λlev i h=>by simp[Gh.order,h]
 have hβL: ∀j,(G.order L m).β L j=G.β L (m.getD j 0):=λj=>by simp[Gh.order]
 have hlv: ∀j,b8 (bU l' j)->j<m.length/\b8 (bU s.lam (m.getD j 0))/\ObRen m (bU s.lam (m.getD j 0)) (bU l' j):=by intro j h;have h1:=(hlg j).live.1 h;obtain⟨h2,h3⟩:=Zg h1;grind
 have hlive: ∀lev i,b8 (bT (μ++[l']) lev i)->(lev<L/\bT (μ++[l']) lev i=bT (μ++[s.lam]) lev i/\(G.order L m).β lev i=G.β lev i/\b8 (bT (μ++[s.lam]) lev i))\/
  (lev=L/\i<m.length/\b8 (bT (μ++[s.lam]) L (m.getD i 0))/\(G.order L m).β lev i=G.β L (m.getD i 0)/\ObRen m (bU s.lam (m.getD i 0)) (bU l' i)):=by
  intro lev i h;rcases fF (s:={fr:=fr',lam:=l',pushed:=false}) hμ h with⟨h1,h2⟩|⟨rfl,h1,h2⟩
  ·have e:bT (μ++[l']) lev i=bT (μ++[s.lam]) lev i:=by rw[bT,bT,cV bu,cV bu]
   exact .inl ⟨h1,e,hβ lev i bu,by rw[<-e];exact h⟩
  ·have h':b8 (bU l' i):=by rw[<-eL'];exact h
   obtain⟨a1,a2,a3⟩:=hlv i h';exact .inr ⟨rfl,a1,by rw[eL];exact a2,hβL i,a3⟩
 have hown: ∀q b,bK (G.order L m) w fr' tm (μ++[l']) q b->(∃t,q= .fr t/\bK G w s.fr tm (μ++[s.lam]) q b)\/(∃lev i k,q= .ob lev i k/\lev<L/\bK G w s.fr tm (μ++[s.lam]) q b)\/
  (∃i k,q= .ob L i k/\i<m.length/\bK G w s.fr tm (μ++[s.lam]) (.ob L (m.getD i 0) k) b):=by
  intro q b h;cases q with
  |fr t=>exact .inl ⟨t,rfl,((qg h0 (hf t) (R.fr t)).2.1 b).1 h⟩|ob lev i k=>
   have hl':=jQ h;rcases hlive lev i hl' with⟨h1,h2,h3,_⟩|⟨rfl,h1,h2,h3,h4⟩
   ·exact .inr (.inl ⟨lev,i,k,rfl,h1,jR (fr':=fr') (tm':=tm) h2 h3 rfl h⟩)
   ·refine .inr (.inr ⟨i,k,rfl,h1,?_⟩);simp only[bK,eL',h3]at h;split at h<;>try(exact h.elim)
    rename_i ds hds;split at h<;>try(exact h.elim)
    rename_i y hy;obtain⟨cur,e',fz,hb,ho⟩:=h;rw[hds]at h4;generalize hq:bU s.lam (m.getD i 0)=q at h4;cases h4 with
    |cells hr=>obtain⟨_,hg⟩:=wj hr;obtain⟨x,hx,hxy⟩:=hg k y hy;have hob:=R.lam (m.getD i 0);rw[hq]at hob;simp only[ObR]at hob;obtain⟨cur2,e2,fz2,hb2,_,_,_,hrr⟩:=hob;rw[hb2]at hb;obtain⟨rfl,rfl,rfl⟩:=(kV ..).mp (iM hb);simp only[bK,eL,hq,hx];exact⟨cur2,e2,fz2,hb2,((qg h0 hxy (hrr k x hx)).2.1 b).1 ho⟩
 have hget: ∀{i j:Nat},i<m.length->j<m.length->m.getD i 0=m.getD j 0->i=j:=by intro i j hi hj e;rw[gi,gi,dK hi,dK hj]at e;exact(List.getElem_inj hm).1 (by simpa using e)
 have hsz: ∀j,(G.order L m).sz L j=G.sz L (m.getD j 0):=λj=>by simp[Gh.order]
 refine⟨⟨hμ,λt=> ?_,λi=> ?_,λlev i hlt=> ?_,λlev i lev' i' h h' e=> ?_,λq q' b h h'=> ?_,λq b lev i h h' e=> ?_,R.nlt,?_,R.ngt⟩,⟨hle,rfl,rfl,rfl,ct _,λ_ _ _=>⟨rfl,rfl⟩,λb hb=> .inl ?_,λl hlt=>⟨λi=> ?_,rfl⟩⟩⟩
 ·simp only[hll'];exact(qg h0 (hf t) (R.fr t)).1
 ·simp only[hll',hβL,hsz];by_cases hd:b8 (bU l' i)
  ·obtain⟨_,_,hr⟩:=hlv i hd;have hob:=R.lam (m.getD i 0);revert hob hr;generalize bU s.lam (m.getD i 0)=q;generalize bU l' i=q';intro hr hob;cases hr with
   |dead=>trivial|arr=>simp only[ObR]at hob |-;obtain⟨hk,cur,e,fz,h1,h2,h3,h4,h5⟩:=hob;exact⟨hk,cur,e,fz,h1,h2,h3,h4,λj x hx=>de hle x _ (h5 j x hx)⟩
   |map=>simp only[ObR]at hob |-;obtain⟨es,clk,h1,h2,h3⟩:=hob;exact⟨es,clk,h1,h2,rF hle h3⟩
   |cells hrr=>obtain⟨hln,hg⟩:=wj hrr;simp only[ObR]at hob |-;obtain⟨cur,e,fz,h1,h2,h3,h4,h5⟩:=hob;refine⟨cur,e,fz,h1,h2,h3,by rw[hln];exact h4,λj y hy=> ?_⟩;obtain⟨x,hx,hxy⟩:=hg j y hy;exact(qg h0 hxy (h5 j x hx)).1
  ·generalize hq:bU l' i=q at hd;cases q with|dead=>trivial|cells=>exact absurd trivial hd|arr=>exact absurd trivial hd|map=>exact absurd trivial hd
 ·have hne:lev≠L:=bu;rw[hβ lev i hne,show (G.order L m).sz lev i=G.sz lev i by simp[Gh.order,hne]];exact eS (hle.below lev) (ct _) (λ_ h=>by omega) (λ_=>⟨rfl,rfl⟩) (λ_ _ _ _ _ _ _ _ _ _ _=>⟨rfl,rfl⟩) (R.mu lev i hlt)
 ·rcases hlive lev i h with⟨h1,_,h3,h4⟩|⟨rfl,h1,h2,h3,_⟩<;>rcases hlive lev' i' h' with⟨h1',_,h3',h4'⟩|⟨rfl,h1',h2',h3',_⟩
  ·rw[h3,h3']at e;exact R.inj lev i lev' i' h4 h4' e
  ·rw[h3,h3']at e;have:=(R.inj _ _ _ _ h4 h2' e).1;omega
  ·rw[h3,h3']at e;have:=(R.inj _ _ _ _ h2 h4' e).1;omega
  ·rw[h3,h3']at e;exact⟨rfl,hget h1 h1' (R.inj _ _ _ _ h2 h2' e).2⟩
 ·rcases hown q b h with⟨t,rfl,h1⟩|⟨lev,i,k,rfl,hlt,h1⟩|⟨i,k,rfl,hi,h1⟩<;>rcases hown q' b h' with⟨t',rfl,h1'⟩|⟨lev',i',k',rfl,hlt',h1'⟩|⟨i',k',rfl,hi',h1'⟩
  ·exact R.own _ _ b h1 h1'
  ·exact R.own _ _ b h1 h1'
  ·have:=R.own _ _ b h1 h1';cases this
  ·exact R.own _ _ b h1 h1'
  ·exact R.own _ _ b h1 h1'
  ·have:=R.own _ _ b h1 h1';injection this with a1 a2 a3;omega
  ·have:=R.own _ _ b h1 h1';cases this
  ·have:=R.own _ _ b h1 h1';injection this with a1 a2 a3;omega
  ·have:=R.own _ _ b h1 h1';injection this with a1 a2 a3;rw[hget hi hi' a2,a3]
 ·have hlv': ∃lev2 i2,b8 (bT (μ++[s.lam]) lev2 i2)/\G.β lev2 i2=b:=by
   rcases hlive lev i h' with⟨h1,_,h3,h4⟩|⟨rfl,h1,h2,h3,_⟩
   ·exact⟨lev,i,h4,by rw[<-h3];exact e⟩
   ·exact⟨_,_,h2,by rw[<-h3];exact e⟩
  obtain⟨lev2,i2,h2,e2⟩:=hlv';rcases hown q b h with⟨t,rfl,h1⟩|⟨lev,i,k,rfl,hlt,h1⟩|⟨i,k,rfl,hi,h1⟩
  ·exact R.apart _ b lev2 i2 h1 h2 e2
  ·exact R.apart _ b lev2 i2 h1 h2 e2
  ·exact R.apart _ b lev2 i2 h1 h2 e2
 ·simp only[d6,du];exact h0
 ·rcases hb with⟨q,hb⟩|⟨lev,i,hb,e⟩
  ·rcases hown q b hb with⟨t,rfl,h1⟩|⟨lev,i,k,rfl,hlt,h1⟩|⟨i,k,rfl,hi,h1⟩
   ·exact .inl ⟨_,h1⟩
   ·exact .inl ⟨_,h1⟩
   ·exact .inl ⟨_,h1⟩
  ·rcases hlive lev i hb with⟨h1,_,h3,h4⟩|⟨rfl,h1,h2,h3,_⟩
   ·exact .inr ⟨lev,i,h4,by rw[<-h3];exact e⟩
   ·exact .inr ⟨_,_,h2,by rw[<-h3];exact e⟩
 ·have hne:l≠L:=bu;simp[Gh.order,hne]
def ZH {mo nl:Nat}{x y:LV}{v:Value}(h:KU mo x=some y)(hx:LVR G w L nl x v):LVR G w L nl y v/\ ∀b,b6 y v b->b6 x v b:=by
 unfold KU at h;split at h
 ·simp only[bP]at h;subst h;exact⟨oM hx,λb hb=>absurd hb ng⟩
 ·obtain⟨xs,h1,h2⟩:=bA.1 h;simp only[bP]at h2;subst h2;exact nz h1 hx
 ·obtain⟨xs,h1,h2⟩:=bA.1 h;simp only[bP]at h2;subst h2;exact GA h1 hx
 ·obtain⟨xs,h1,h2⟩:=bA.1 h;simp only[bP]at h2;subst h2;exact⟨by simp only[LVR];exact jO h1 hx,λb hb=>by simp[b6]at hb⟩
def Nh {fr:Fr}: ∀{live:List (Nat×Nat)} {vs:List LV},w7 fr live=some vs-> ∀t,it (nS (live.map Prod.fst) vs) t= .cv .undef\/ ∃mo y,KU mo (fr t)=some y/\it (nS (live.map Prod.fst) vs) t=y
 |[],vs,h,t=>by simp only[w7,bP]at h;subst h;exact .inl rfl|q::r,vs,h,t=>by
  simp only[w7]at h;obtain⟨v,h1,h⟩:=bA.1 h;obtain⟨l,h2,h⟩:=bA.1 h;simp only[bP]at h;subst h;simp only[dr,nS,it];split
  ·rename_i e;have:=fb e;grind
  ·exact Nh h2 t
def Hm {m:List Nat}: ∀{ts:List Nat} {vs us:List LV},iZ m vs=some us-> ∀t,jm m (it (nS ts vs) t)=some (it (nS ts us) t)
 |[],vs,us,h,t=>by simp[nS,it,jm]|u::ts,[],us,h,t=>by simp only[iZ,bP]at h;subst h;simp[nS,it,jm]|u::ts,v::vs,us,h,t=>by
  simp only[iZ]at h;obtain⟨y,h1,h⟩:=bA.1 h;obtain⟨l,h2,h⟩:=bA.1 h;simp only[bP]at h;subst h;simp only[nS,it];split
  ·exact h1
  ·exact Hm h2 t
def Rel.weaken (R:Rel G L s μ tm w){i:Nat}{cs cs':List LV}(ho:bU s.lam i= .cells cs)(hl:cs'.length=cs.length)
 (hc: ∀(k:Nat) x',cs'[k]? =some x'-> ∃x,cs[k]? =some x/\ ∀v,LVR G w L s.lam.length x v->LVR G w L s.lam.length x' v/\ ∀b,b6 x' v b->b6 x v b):
 Rel G L {s with lam:=s.lam.set i (.cells cs')} μ tm w/\Ext L (bM G w s μ tm) G w G w (bM G w {s with lam:=s.lam.set i (.cells cs')} μ tm):=by
 have hμ:=R.lev;have hi:i<s.lam.length:=lO (by rw[ho];trivial);have eL: ∀(l:Lam) j,bT (μ++[l]) L j=bU l j:=λl j=>by rw[<-hμ];exact db
 have hlam: ∀j,bU (s.lam.set i (.cells cs')) j=if j=i then .cells cs' else bU s.lam j:=by intro j;simp only[bU];grind
 have hlt: ∀lev j,lev<L->bT (μ++[s.lam.set i (.cells cs')]) lev j=bT (μ++[s.lam]) lev j:=λlev j h=>by rw[bT,bT,cV bu,cV bu]
 have hgt: ∀(l:Lam) lev j,L<lev->bT (μ++[l]) lev j= .dead:=λl lev j h=>by rw[bT,nG bu]
 have hlive: ∀lev j,b8 (bT (μ++[s.lam.set i (.cells cs')]) lev j)->b8 (bT (μ++[s.lam]) lev j):=by
  intro lev j h;rcases sL lev L with h1|h1|h1
  ·simp_all
  ·subst h1;rw[eL,hlam]at h;rw[eL];split at h
   ·rename_i e;rw[e,ho];trivial
   ·exact h
  simp_all
 have hob:=R.lam i;rw[ho]at hob;simp only[ObR]at hob;obtain⟨cur,e,fz,h1,h2,h3,h4,h5⟩:=hob;have hown: ∀q b,bK G w s.fr tm (μ++[s.lam.set i (.cells cs')]) q b->bK G w s.fr tm (μ++[s.lam]) q b:=by
  intro q b h;cases q with|fr t=>exact h|ob lev j k=>simp only[bK]at h |-;grind
 refine⟨⟨hμ,λt=> ?_,λj=> ?_,R.mu,λlev j lev' j' h h'=>R.inj lev j lev' j' (hlive lev j h) (hlive lev' j' h'),λq q' b h h'=>R.own q q' b (hown q b h) (hown q' b h'),λq b lev j h h'=>R.apart q b lev j (hown q b h) (hlive lev j h'),R.nlt,?_,R.ngt⟩,Ext.refl G w λb hb=> ?_⟩
 ·simp only[Je];exact R.fr t
 ·simp only[Je];rw[hlam];split
  ·rename_i ej;subst ej;simp only[ObR];grind
  ·exact R.lam j
 ·simp only[Je];exact R.nL
 ·rcases hb with⟨q,hb⟩|⟨lev,j,hb,e⟩
  ·exact .inl ⟨q,hown q b hb⟩
  ·exact .inr ⟨lev,j,hlive lev j hb,e⟩
def Br {α:Type}{nl:Nat}: ∀{ms:List Nat} {cs:List LV} {k:List LV->Option α} {r:α},la ms cs k=some r->
 ∃cs',k cs'=some r/\cs'.length=cs.length/\ ∀(j:Nat) x',cs'[j]? =some x'-> ∃x,cs[j]? =some x/\ ∀v,LVR G w L nl x v->LVR G w L nl x' v/\ ∀b,b6 x' v b->b6 x v b
 |[],cs,k,r,h=>⟨cs,h,rfl,λj x hx=>⟨x,hx,λv hv=>⟨hv,λ_ hb=>hb⟩⟩⟩|m::ms,[],k,r,h=>by simp[la]at h|m::ms,c::cs,k,r,h=>by
  simp only[la,KR]at h;have key: ∀c',(la ms cs λr=>k (c'::r))=some r->(∀v,LVR G w L nl c v->LVR G w L nl c' v/\ ∀b,b6 c' v b->b6 c v b)->
   ∃cs',k cs'=some r/\cs'.length=(c::cs).length/\ ∀(j:Nat) x',cs'[j]? =some x'-> ∃x,(c::cs)[j]? =some x/\ ∀v,LVR G w L nl x v->LVR G w L nl x' v/\ ∀b,b6 x' v b->b6 x v b:=by
   intro c' h hc;obtain⟨cs',h1,h2,h3⟩:=Br h;refine⟨c'::cs',h1,by simp[h2],λj x' hx'=> ?_⟩;cases j with|zero=>simp only[ft,bP]at hx';subst hx';exact⟨c,rfl,hc⟩|succ j=>exact h3 j x' (by simpa using hx')
  split at h
  ·exact key c h λv hv=>⟨hv,λ_ hb=>hb⟩
  ·obtain⟨xs,h1,h2⟩:=bA.1 h;exact key _ h2 λv hv=>nz h1 hv
  ·obtain⟨x,h1,h2⟩:=bA.1 h;exact key _ h2 λv hv=>⟨by simp only[LVR];exact ji h1 hv,λb hb=>by simp[b6]at hb⟩
  ·obtain⟨xs,h1,h2⟩:=bA.1 h;exact key _ h2 λv hv=>⟨by simp only[LVR];exact jO h1 hv,λb hb=>by simp[b6]at hb⟩
def Rel.setPushed (R:Rel G L s μ tm w):Rel (G.push L s.lam.length) L {s with pushed:=true} μ tm w/\
 Ext L (bM G w s μ tm) G w (G.push L s.lam.length) w (bM (G.push L s.lam.length) w {s with pushed:=true} μ tm):=by
 have hle:Le G w (G.push L s.lam.length) w:=qu λi h=>by have:=R.nL;grind
 have hbel: ∀lev,lev<L->(G.push L s.lam.length).below lev=G.below lev:=by intro lev h;simp only[Gh.below,Gh.push,Gh.mk.injEq,jW,ka];grind
 have hO: ∀q b,bK (G.push L s.lam.length) w s.fr tm (μ++[s.lam]) q b->bK G w s.fr tm (μ++[s.lam]) q b:=by intro q b h;cases q<;>exact h
 refine ⟨⟨R.lev, λt => ga hle (ct _) (λi _ => ⟨rfl, rfl⟩) _ _ (λb _ => ⟨rfl, rfl⟩) (R.fr t), λi => ?_, λlev i h => ?_, R.inj,
  λq q' b h h'=>R.own q q' b (hO q b h) (hO q' b h'),λq b lev i h h'=>R.apart q b lev i (hO q b h) h',λlev h=> ?_,?_,λlev h=> ?_⟩,?_⟩
 ·exact eS hle (ct _) (λi _=>⟨rfl,rfl⟩) (λ_=>⟨rfl,rfl⟩) (λ_ _ _ _ _ _ _ _ _ _ _=>⟨rfl,rfl⟩) (R.lam i)
 ·rw[hbel lev h];exact R.mu lev i h
 ·simp only[Gh.push];rw[bB bu];exact R.nlt lev h
 ·simp[Gh.push]
 ·simp only[Gh.push];rw[bB bu];exact R.ngt lev h
 ·refine⟨hle,rfl,rfl,rfl,ct _,λ_ _ _=>⟨rfl,rfl⟩,λb hb=> .inl ?_,λl hl=>⟨λ_=>⟨rfl,rfl⟩,?_⟩⟩
  ·rcases hb with⟨q,hb⟩|hb
   ·exact .inl ⟨q,hO q b hb⟩
   ·exact .inr hb
  ·simp only[Gh.push];rw[bB bu]
def qc {α:Type}: ∀{obs:List (Nat×List Nat)} {G:Gh} {s:S} {k:S->Option α} {r:α},qQ obs s k=some r->Rel G L s μ tm w->
 ∃s' G',k s'=some r/\Rel G' L s' μ tm w/\Ext L (bM G w s μ tm) G w G' w (bM G' w s' μ tm)
 |[],G,s,k,r,h,R=>⟨s,G,h,R,Ext.refl G w λ_ hb=>hb⟩|q::l,G,s,k,r,h,R=>by
  simp only[qQ]at h;split at h
  ·obtain⟨R1,E1⟩:=R.setPushed;obtain⟨s',G',h4,R2,E2⟩:=qc h R1;exact⟨s',G',h4,R2,E1.trans E2⟩
  split at h<;>try(simp at h;done)
  rename_i cs ho;obtain⟨cs',h1,h2,h3⟩:=Br (G:=G) (w:=w) (L:=L) (nl:=s.lam.length) h;obtain⟨R1,E1⟩:=R.weaken ho h2 h3;obtain⟨s',G',h4,R2,E2⟩:=qc h1 R1;exact⟨s',G',h4,R2,E1.trans E2⟩
def gJ {α:Type}{live:List (Nat×Nat)}{k:S->Option α}{r:α}(h:gx live s k=some r)(R:Rel G L s μ tm w):
 ∃s' G',k s'=some r/\Rel G' L s' μ tm w/\Ext L (bM G w s μ tm) G w G' w (bM G' w s' μ tm):=by
 unfold gx at h;obtain⟨vs,h1,h⟩:=bA.1 h;obtain⟨R1,hO⟩:=R.refr (fr':=it (nS (live.map Prod.fst) vs)) λt=>by
  rcases Nh h1 t with e|⟨mo,y,h2,e⟩
  ·rw[e];exact⟨by simp[LVR,VR],λb hb=>by simp[b6]at hb⟩
  ·rw[e];exact ZH h2 (R.fr t)
 have E1:Ext L (bM G w s μ tm) G w G w (bM G w {s with fr:=it (nS (live.map Prod.fst) vs)} μ tm):=Ext.refl G w λb hb=>by
  rcases hb with⟨l,hb⟩|hb
  ·exact .inl ⟨l,hO l b hb⟩
  ·exact .inr hb
 split at h
 ·grind
 ·rename_i hp;obtain⟨us,h2,h⟩:=bA.1 h;obtain⟨l,h3,h⟩:=bA.1 h;obtain⟨R2,E2⟩:=R1.reorder hp (ry _ _ _ _ bE) (Hm h2) h3;exact⟨_,_,h,R2,E1.trans E2⟩
def qZ {x y:Bool}(h:(match x with|true=>y|false=>false)=true):x=true/\y=true:=by grind
def Gq {m:Nat}:Le (G.cut L) w ((G.cut L).push L m) w:=qu λi h=>by simp[Gh.cut]at h
def abx {m:Nat}(hg: ∀lev,L<lev->G.n lev=0){c:CV}{v:Value}(hb:HB L m c=true)(h:VR G w c v):VR ((G.cut L).push L m) w c v:=by
 have key: ∀c:CV,below L c=true->VR G w c v->VR ((G.cut L).push L m) w c v:=λc hb h=>de Gq _ _ (iI c v hb h);cases c with
 |ref lev i off=>
  simp only[VR]at h |-;refine⟨?_,h.2⟩;simp only[Gh.push,Gh.cut];simp only[HB]at hb;split at hb
  ·rename_i hl;have hl:lev<L:=by simpa using hl
   grind
  ·rename_i hl;have hl: ¬lev<L:=λh=>by rw[<-pj]at h;rw[h]at hl;cases hl
   have:lev=L:=by grind
   simp_all
 |tref lev i t n=>
  simp only[VR]at h |-;refine⟨?_,h.2⟩;simp only[Gh.push,Gh.cut];simp only[HB]at hb;split at hb
  ·rename_i hl;have hl:lev<L:=by simpa using hl
   grind
  ·rename_i hl;have hl: ¬lev<L:=λh=>by rw[<-pj]at h;rw[h]at hl;cases hl
   have:lev=L:=by grind
   simp_all
 |_=>exact key _ hb h
mutual
def Ac {m nl:Nat}(hg: ∀lev,L<lev->G.n lev=0): ∀(x:LV) (v:Value),nb L m x=true->LVR G w L nl x v->LVR ((G.cut L).push L m) w L m x v
 | .cv c,v,hb,h=>by simp only[LVR]at h |-;exact abx hg hb h| .osl xs,v,hb,h=>by
  simp only[LVR]at h |-;have:=Ji (m:=L) hb h;rcases this with h|⟨b,cap,cur,e,s,h1,h2,h3,h4,h5,h6,h7,h8,h9,h10⟩
  ·exact .inl h
  ·exact .inr ⟨b,cap,cur,e,s,h1,h2,h3,h4,h5,h6,h7,iO Gq b s 0 xs h8,h9,h10⟩
 | .ost xs,v,hb,h=>by simp only[LVR]at h |-;exact h| .stl n,v,hb,h=>by simpa[LVR]using h| .loc i off,v,hb,h=>by simp only[LVR]at h |-;exact⟨by simpa[nb]using hb,h.2⟩| .lsl i off len,v,hb,h=>by simp only[LVR]at h |-;exact⟨by simpa[nb]using hb,h.2⟩| .mloc i,v,hb,h=>by simp only[LVR]at h |-;exact⟨by simpa[nb]using hb,h.2⟩| .tloc i t n,v,hb,h=>by simp only[LVR]at h |-;exact⟨by simpa[nb]using hb,h.2⟩| .lclo f caps,v,hb,h=>by simp only[LVR]at h |-;obtain⟨vs,e,hl⟩:=h;exact⟨vs,e,FU hg caps _ (by simpa[nb]using hb) hl⟩
 | .ltup xs,v,hb,h=>by simp[nb]at hb
def FU {m nl:Nat}(hg: ∀lev,L<lev->G.n lev=0): ∀(xs:List LV) (vs:List Value),oo L m xs=true->en G w L nl xs vs->en ((G.cut L).push L m) w L m xs vs
 |[],vs,hb,h=>by simpa[en]using h|x::xs,vs,hb,h=>by simp only[en]at h |-;simp only[oo]at hb;obtain⟨hb1,hb2⟩:=qZ hb;obtain⟨v,r,e,h0,h1,h2⟩:=h;exact⟨v,r,e,h0,Ac hg x v hb1 h1,FU hg xs r hb2 h2⟩
end
def HC {m:Nat}: ∀{xs:List LV} {j:Nat} {x:LV},oo L m xs=true->xs[j]? =some x->nb L m x=true
 |[],j,x,hb,h=>by simp at h|y::ys,j,x,hb,h=>by
  simp only[oo]at hb;obtain⟨hb1,hb2⟩:=qZ hb;cases j with|zero=>simp only[ft,bP]at h;subst h;exact hb1|succ j=>exact HC hb2 (by simpa using h)
def Gd {m:Nat}: ∀{xs:List CV} {j:Nat} {x:CV},dp m xs=true->xs[j]? =some x->below m x=true
 |[],j,x,hb,h=>by simp at h|y::ys,j,x,hb,h=>by
  obtain⟨hb1,hb2⟩:=da hb;cases j with|zero=>simp only[ft,bP]at h;subst h;exact hb1|succ j=>exact Gd hb2 (by simpa using h)
def CB {m:Nat}: ∀{xs:List Ob} {j:Nat} {x:Ob},uW L m xs=true->xs[j]? =some x->IR L m x=true
 |[],j,x,hb,h=>by simp at h|y::ys,j,x,hb,h=>by
  simp only[uW]at hb;obtain⟨hb1,hb2⟩:=qZ hb;cases j with|zero=>simp only[ft,bP]at h;subst h;exact hb1|succ j=>exact CB hb2 (by simpa using h)
def XH {m nl b sz:Nat}(hg: ∀lev,L<lev->G.n lev=0){o:Ob}(hb:IR L m o=true)(h:ObR G w L nl b sz o):ObR ((G.cut L).push L m) w L m b sz o:=by
 cases o with
 |dead=>trivial|cells cs=>simp only[ObR]at h |-;obtain⟨cur,e,fz,h1,h2,h3,h4,h5⟩:=h;exact⟨cur,e,fz,h1,h2,h3,h4,λj x hx=>Ac hg x _ (HC hb hx) (h5 j x hx)⟩
 |arr k cs=>simp only[ObR]at h |-;obtain⟨hk,cur,e,fz,h1,h2,h3,h4,h5⟩:=h;exact⟨hk,cur,e,fz,h1,h2,h3,h4,λj x hx=>de Gq _ _ (iI x _ (Gd hb hx) (h5 j x hx))⟩
 |map ks vs=>simp only[ObR]at h |-;obtain⟨es,clk,h1,h2,h3⟩:=h;exact⟨es,clk,h1,h2,h3.1,lM Gq _ _ (wJ vs _ hb h3.2)⟩
def Rel.trunc (R:Rel G L s μ tm w)(hp:s.pushed=true){m:Nat}(hm:m<=s.lam.length)(hf: ∀t,nb L m (s.fr t)=true)(hl:uW L m (s.lam.take m)=true):
 Rel ((G.cut L).push L m) L {s with lam:=s.lam.take m} μ tm w/\(∀b,bM ((G.cut L).push L m) w {s with lam:=s.lam.take m} μ tm b->bM G w s μ tm b):=by
 have hμ:=R.lev;have hlen:(s.lam.take m).length=m:=b7;have eL: ∀(l:Lam) j,bT (μ++[l]) L j=bU l j:=λl j=>by rw[<-hμ];exact db
 have hlt: ∀lev j,lev<L->bT (μ++[s.lam.take m]) lev j=bT (μ++[s.lam]) lev j:=λlev j h=>by rw[bT,bT,cV bu,cV bu]
 have hgt: ∀(l:Lam) lev j,L<lev->bT (μ++[l]) lev j= .dead:=λl lev j h=>by rw[bT,nG bu]
 have hlam: ∀i,bU (s.lam.take m) i=if i<m then bU s.lam i else .dead:=by
  intro i;by_cases h:i<m
  ·rw[bC h];simp only[bU,Dh h]
  ·rw[bB h];simp only[bU];rw[List.getElem?_take_eq_none bu]
 have hat: ∀lev i,bT (μ++[s.lam.take m]) lev i=bT (μ++[s.lam]) lev i\/bT (μ++[s.lam.take m]) lev i= .dead:=by grind
 have hlive: ∀lev i,b8 (bT (μ++[s.lam.take m]) lev i)->b8 (bT (μ++[s.lam]) lev i):=by
  intro lev i h;rcases hat lev i with e|e
  ·simp_all
  ·rw[e]at h;exact h.elim
 have hown: ∀q b,bK ((G.cut L).push L m) w s.fr tm (μ++[s.lam.take m]) q b->bK G w s.fr tm (μ++[s.lam]) q b:=by
  intro q b h;cases q with
  |fr t=>exact h|ob lev i k=>
   rcases hat lev i with e|e
   ·simp only[bK]at h |-;rw[e]at h;exact h
   ·simp only[bK,e]at h
 have hbel: ∀lev,lev<L->((G.cut L).push L m).below lev=G.below lev:=by intro lev h;simp only[Gh.below,Gh.push,Gh.cut,Gh.mk.injEq,jW,ka];grind
 refine ⟨⟨R.lev, λt => ?_, λi => ?_, λlev i h => ?_, λlev i lev' i' h h' e => R.inj lev i lev' i' (hlive _ _ h) (hlive _ _ h') e,
  λq q' b h h'=>R.own q q' b (hown q b h) (hown q' b h'),λq b lev i h h'=>R.apart q b lev i (hown q b h) (hlive _ _ h'),λlev h=> ?_,?_,λlev h=> ?_⟩,λb hb=> ?_⟩
 ·show LVR _ w L (s.lam.take m).length _ _;rw[hlen];exact Ac R.ngt _ _ (hf t) (R.fr t)
 ·show ObR _ w L (s.lam.take m).length _ _ (bU (s.lam.take m) i);rw[hlen,hlam];split
  ·rename_i hi;refine XH R.ngt (CB (j:=i) hl ?_) (R.lam i);rw[Dh hi,bU,dK bu]
  ·trivial
 ·rw[hbel lev h];exact R.mu lev i h
 ·simp only[Gh.push,Gh.cut];rw[bB bu,bC h];exact R.nlt lev h
 ·show ((G.cut L).push L m).n L=if s.pushed then(s.lam.take m).length else 0;rw[hp,hlen];simp[Gh.push]
 ·simp only[Gh.push,Gh.cut];rw[bB bu,bB bu]
 ·rcases hb with⟨q,hb⟩|⟨lev,i,hb,e⟩
  ·exact .inl ⟨q,hown q b hb⟩
  ·exact .inr ⟨lev,i,hlive lev i hb,e⟩
def Ht {fr:Fr}{m:Nat}: ∀{live:List (Nat×Nat)},oo L m (HD (kw fr live))=true-> ∀t,(it (kw fr live) t= .cv .undef\/it (kw fr live) t=fr t)/\nb L m (it (kw fr live) t)=true
 |[],hb,t=>⟨.inl rfl,rfl⟩|q::r,hb,t=>by
  simp only[kw,HD,oo]at hb;obtain⟨hb1,hb2⟩:=qZ hb;simp only[kw,it];split
  ·simp_all
  ·exact Ht hb2 t
def uU {α:Type}{live:List (Nat×Nat)}{k:S->Option α}{r:α}(h:ol L live s k=some r)(R:Rel G L s μ tm w){T:Nat->Prop}{G0:Gh}{w0:World}(E:Ext L T G0 w0 G w (bM G w s μ tm))(h0:G0.n L=0):
 ∃s' G',k s'=some r/\Rel G' L s' μ tm w/\Ext L T G0 w0 G' w (bM G' w s' μ tm):=by
 unfold ol at h;split at h
 ·grind
 ·rename_i m hm;obtain⟨hc,h⟩:=bR.1 h;simp only[cE]at hc;obtain⟨⟨⟨hp,hlen⟩,hu⟩,ho⟩:=hc;have hsl:=Ht (fr:=s.fr) hu;obtain⟨R1,hO⟩:=R.refr (fr':=it (kw s.fr live)) λt=>by
   rcases(hsl t).1 with e|e
   ·rw[e];exact⟨by simp[LVR,VR],λb hb=>by simp[b6]at hb⟩
   ·rw[e];exact⟨R.fr t,λ_ hb=>hb⟩
  obtain⟨R2,hT⟩:=R1.trunc hp (gr hlen) (λt=>(hsl t).2) ho;have e:({fr:=it (kw s.fr live),lam:=s.lam.take m,pushed:=true}:S)={s with fr:=it (kw s.fr live),lam:=s.lam.take m}:=by simp_all
  rw[e]at h;refine⟨_,_,h,R2,⟨⟨E.le.map,λlev i hi=> ?_,E.le.imm,E.le.blk⟩,E.os,E.tape,E.output,E.size,E.keep,λb hb=>E.grow b ?_,λl hl=>⟨(E.lev l hl).1,?_⟩⟩⟩
  ·obtain⟨h1,h2,h3⟩:=E.le.ref lev i hi;refine⟨?_,h2,h3⟩;rcases sL lev L with hl|hl|hl
   ·simp only[Gh.push,Gh.cut];rw[bB bu,bC hl];exact h1
   ·simp_all
   ·have:=R.ngt lev hl;omega
  ·have:=hT b hb;rcases this with⟨q,hb⟩|hb
   ·exact .inl ⟨q,hO q b hb⟩
   ·exact .inr hb
  ·simp only[Gh.push,Gh.cut];rw[bB bu,bC hl];exact(E.lev l hl).2
end
def mz (L:Nat)(T:Nat->Prop)(G:Gh)(w:World)(n:Nat)(ds:Keep)(s:S)(μ:Mu)(a:Act)(w':World)(G':Gh):Prop:=
 Rel G' L s μ a.tmps w'/\Ext L T G w G' w' (bM G' w' s μ a.tmps)/\a.tmps.size=n/\ds.at a/\G.n L=0
def StR (L:Nat)(T:Nat->Prop)(G:Gh)(w:World)(n:Nat)(ds:Keep):St->Exit->Act->World->Prop
 | .norm s μ,.normal,a,w'=> ∃G',mz L T G w n ds s μ a w' G'| .exit i s μ,.exit j,a,w'=>i=j/\ ∃G',mz L T G w n ds s μ a w' G'| .ret s μ,.ret,a,w'=> ∃G',mz L T G w n ds s μ a w' G'| .panic v s μ,.panic ch,a,w'=> ∃G' pv,ch=[{v:=pv,recovered:=false}]/\VR G' w' v pv/\mz L T G w n ds s μ a w' G'|_,_,_,_=>False
def xV (P:Program)(c:Code)(Q:Exit->Act->World->Prop)(a:Act)(w:World):Prop:=
 ∀(b:Frame) (k:List Item) (cs:List Frame),∃e a' w',Q e a' w'/\Arrives P (lone (b.at a (.code c:: .inLoop c::k)) cs w) b k cs e a' w'
def qv (P:Program)(W0:World)(ρ:Rho):Prop:= ∀H lv c s μ st,ρ.loop H lv c s μ=some st-> ∀L G w a Q T G0 w0 n (ds:Keep),g8 n ds.slot c=true->Kn W0 w0 T->mz L T G0 w0 n ds s μ a w G->
 (∀e a' w',StR L T G0 w0 n ds st e a' w'->Q e a' w')->xV P c Q a w
def ui (P:Program)(W0:World)(ρ:Rho):Prop:= ∀H lv c s μ st,ρ.seg H lv c s μ=some st-> ∀L G w a Q T G0 w0 n (ds:Keep),g8 n ds.slot c=true->Kn W0 w0 T->mz L T G0 w0 n ds s μ a w G->
 (∀e a' w',StR L T G0 w0 n ds st e a' w'->Q e a' w')->c.wp P Q a w
section
variable {P:Program}{W0:World}{ρ:Rho}{Q:Exit->Act->World->Prop}{a:Act}{w:World}{c:Code}
def xV.wp (h:xV P c Q a w):(Code.loop c).wp P Q a w:=by intro b k cs;obtain⟨e,a',w',hq,harr⟩:=h b k cs;exact⟨e,a',w',hq,.of_steps (.one step_loop) harr⟩
def xV.unroll (h:c.wp P (Exit.then (xV P c Q) Q) a w):xV P c Q a w:=by
 intro b k cs;obtain⟨e,a₁,w₁,hq,harr⟩:=h b (.inLoop c::k) cs;cases e with
 |normal=>obtain⟨e₂,a₂,w₂,hq₂,harr₂⟩:=hq b k cs;exact⟨e₂,a₂,w₂,hq₂,.of_steps (Steps.trans harr (.one step_inLoop)) harr₂⟩
 |exit id=>exact⟨_,a₁,w₁,hq,.pass (x:= .inLoop c) rfl (λ_ _=> .inl bE) harr⟩|goto l=>exact⟨_,a₁,w₁,hq,.pass (x:= .inLoop c) rfl (λ_ _=> .inl bE) harr⟩|ret=>exact⟨_,a₁,w₁,hq,.pass (x:= .inLoop c) rfl (λ_ _=> .inl bE) harr⟩|panic ch=>exact⟨_,a₁,w₁,hq,.pass (x:= .inLoop c) rfl (λ_ _=> .inl bE) harr⟩|outgrown=>exact⟨_,a₁,w₁,hq,.pass (x:= .inLoop c) rfl (λ_ _=> .inl bE) harr⟩
def gH (hm:P.follows .mixedOrders=true)(hrho:iC P W0 ρ)(hloop:qv P W0 ρ)(hseg:ui P W0 ρ){H:Hints}: ∀(c:Code) {α:Type} {k:St->Option α} {r:α} {Q:Exit->Act->World->Prop} {L:Nat} {T:Nat->Prop} {G0 G:Gh} {w0 w:World} {n:Nat} {ds:Keep} {s:S} {μ:Mu} {a:Act},
 g8 n ds.slot c=true->Kn W0 w0 T->ee P ρ H c s μ k=some r->mz L T G0 w0 n ds s μ a w G->(∀st e a' w',k st=some r->StR L T G0 w0 n ds st e a' w'->Q e a' w')->c.wp P Q a w
 | .skip,α,k,r,Q,L,T,G0,G,w0,w,n,ds,s,μ,a,hc,hkn,h,hs,hk=>by simp only[ee]at h;exact wp_skip (hk _ _ _ _ h ⟨G,hs⟩)| .region id ops draw,α,k,r,Q,L,T,G0,G,w0,w,n,ds,s,μ,a,hc,hkn,h,hs,hk=>by
  simp only[ee]at h;simp only[g8]at hc;obtain⟨R,E,hn,hd,h0⟩:=hs;split at h
  ·refine wp_region (lT (L:=L) (G0:=G0) (w0:=w0) (T:=T) (n:=n) (ds:=ds) hrho (λi o ho d hd=>qe hc (by simpa using ho) d hd) hkn ?_ ?_ _ h R E hn hd)
   ·intro s' μ' a' w' G' h' R' E' hn' hd';exact hk _ .normal a' w' h' ⟨G',R',E',hn',hd',h0⟩
   ·intro v s' μ' pv a' w' G' h' R' hv E' hn' hd';exact hk _ (.panic _) a' w' h' ⟨G',pv,rfl,hv,R',E',hn',hd',h0⟩
  ·obtain⟨hdr,h⟩:=bR.1 h;refine PF (L:=L) (G0:=G0) (w0:=w0) (T:=T) (n:=n) (ds:=ds) hrho hm hdr (λi o ho d hd=>qe hc (by simpa using ho) d hd) hkn ?_ ?_ h R E hn hd
   ·intro s' μ' a' w' G' h' R' E' hn' hd';exact hk _ .normal a' w' h' ⟨G',R',E',hn',hd',h0⟩
   ·cases hso:Db H id ops ops.size with
    |false=>exact .inl λ_ _ _=>rfl|true=>
     refine .inr ⟨rfl,?_,λv s s' μ h1 h2=> ?_⟩
     ·intro v s' μ' pv a' w' G' h' R' hv E' hn' hd';obtain⟨_,h'⟩:=bR.1 h';obtain⟨s2,G2,h2,R2,E2⟩:=gJ h' R';exact hk _ (.panic _) a' w' h2 ⟨G2,pv,rfl,de E2.le _ _ hv,R2,E'.trans E2,hn',hd',h0⟩
     ·simp only[gx,w7,opt,h1,h2]
 | .seq x y,α,k,r,Q,L,T,G0,G,w0,w,n,ds,s,μ,a,hc,hkn,h,hs,hk=>by
  simp only[ee]at h;simp only[g8]at hc;obtain⟨hx,hy⟩:=qZ hc;refine wp_seq (gH hm hrho hloop hseg x hx hkn h hs λst e a' w' h' hst=> ?_);cases st with
  |norm s' μ'=>
   cases e<;>simp only[StR]at hst;obtain⟨G',hs'⟩:=hst;dsimp only at h';split at h'
   ·exact gH hm hrho hloop hseg y hy hkn h' hs' hk
   ·obtain⟨s1,G1,h1,R1,E1⟩:=qc h' hs'.1;obtain⟨s2,G2,h2,R2,E2⟩:=gJ h1 R1;obtain⟨s3,G3,h2,R3,E3⟩:=uU (R2.lev▸h2) R2 (hs'.2.1.trans (E1.trans E2)) hs'.2.2.2.2;obtain⟨st,hst,h3⟩:=bA.1 h2;exact hseg _ _ _ _ _ _ hst L G3 w' a' Q T G0 w0 n ds hy hkn ⟨R3,E3,hs'.2.2⟩ λe a' w' hr=>hk st e a' w' h3 hr
  |exit i s' μ'=>cases e<;>first|exact hst.elim|exact hk _ _ _ _ h' hst
  |ret s' μ'=>cases e<;>first|exact hst.elim|exact hk _ _ _ _ h' hst
  |panic v s' μ'=>cases e<;>first|exact hst.elim|exact hk _ _ _ _ h' hst
 | .cond cc x y,α,k,r,Q,L,T,G0,G,w0,w,n,ds,s,μ,a,hc,hkn,h,hs,hk=>by
  simp only[ee]at h;simp only[g8]at hc;obtain⟨hx,hy⟩:=qZ hc;obtain⟨b,hb,h⟩:=bA.1 h;have hv:=eV (a:=a) hs.1 (jF hb);simp only[VR]at hv;refine wp_cond hv ?_;cases b with|true=>exact gH hm hrho hloop hseg x hx hkn h hs hk|false=>exact gH hm hrho hloop hseg y hy hkn h hs hk
 | .block id x,α,k,r,Q,L,T,G0,G,w0,w,n,ds,s,μ,a,hc,hkn,h,hs,hk=>by
  simp only[ee]at h;simp only[g8]at hc;refine wp_block (gH hm hrho hloop hseg x hc hkn h hs λst e a' w' h' hst=> ?_);cases st with
  |norm s' μ'=>cases e<;>first|exact hst.elim|exact hk _ _ _ _ h' hst
  |exit i s' μ'=>
   cases e<;>first|exact hst.elim|skip
   simp only[StR]at hst;obtain⟨rfl,hs'⟩:=hst;simp only[Exit.inBlock];dsimp only at h';split at h'
   ·rename_i he;rw[bC (fb he)];exact hk _ .normal _ _ h' hs'
   ·rename_i he;rw[bB λe=>by subst e;simp[q9]at he];exact hk _ (.exit i) _ _ h' ⟨rfl,hs'⟩
  |ret s' μ'=>cases e<;>first|exact hst.elim|exact hk _ _ _ _ h' hst
  |panic v s' μ'=>cases e<;>first|exact hst.elim|exact hk _ _ _ _ h' hst
 | .loop x,α,k,r,Q,L,T,G0,G,w0,w,n,ds,s,μ,a,hc,hkn,h,hs,hk=>by simp only[ee]at h;simp only[g8]at hc;obtain⟨s1,G1,h1,R1,E1⟩:=qc h hs.1;obtain⟨s',G',h',R',E'⟩:=gJ h1 R1;obtain⟨s3,G3,h',R3,E3⟩:=uU (R'.lev▸h') R' (hs.2.1.trans (E1.trans E')) hs.2.2.2.2;obtain⟨st,hst,h'⟩:=bA.1 h';exact(hloop _ _ _ _ _ _ hst L G3 w a Q T G0 w0 n ds hc hkn ⟨R3,E3,hs.2.2⟩ λe a' w' hr=>hk st e a' w' h' hr).wp
 | .exit id,α,k,r,Q,L,T,G0,G,w0,w,n,ds,s,μ,a,hc,hkn,h,hs,hk=>by simp only[ee]at h;exact wp_exit (hk _ (.exit id) _ _ h ⟨rfl,G,hs⟩)| .ret,α,k,r,Q,L,T,G0,G,w0,w,n,ds,s,μ,a,hc,hkn,h,hs,hk=>by simp only[ee]at h;exact wp_ret (hk _ .ret _ _ h ⟨G,hs⟩)| .rangeFunc ..,α,k,r,Q,L,T,G0,G,w0,w,n,ds,s,μ,a,hc,hkn,h,hs,hk=>by simp[ee]at h| .scope ..,α,k,r,Q,L,T,G0,G,w0,w,n,ds,s,μ,a,hc,hkn,h,hs,hk=>by simp[ee]at h| .label ..,α,k,r,Q,L,T,G0,G,w0,w,n,ds,s,μ,a,hc,hkn,h,hs,hk=>by simp[ee]at h| .goto ..,α,k,r,Q,L,T,G0,G,w0,w,n,ds,s,μ,a,hc,hkn,h,hs,hk=>by simp[ee]at h| .refuse ..,α,k,r,Q,L,T,G0,G,w0,w,n,ds,s,μ,a,hc,hkn,h,hs,hk=>by simp[ee]at h
def OZ (hm:P.follows .mixedOrders=true)(hrho:iC P W0 ρ)(hloop:qv P W0 ρ)(hseg:ui P W0 ρ){H:Hints}{lv:List (Nat×Nat)}{c:Code}{s:S}{μ:Mu}{st:St}(h:sw P ρ H lv c s μ=some st){L:Nat}{G G0:Gh}{w w0:World}{a:Act}{Q:Exit->Act->World->Prop}
 {T:Nat->Prop} {n:Nat} {ds:Keep} (hc:g8 n ds.slot c=true) (hkn:Kn W0 w0 T) (hs:mz L T G0 w0 n ds s μ a w G) (hQ: ∀e a' w',StR L T G0 w0 n ds st e a' w'->Q e a' w'):xV P c Q a w:=by
 unfold sw at h;refine .unroll (gH hm hrho hloop hseg c hc hkn h hs λst1 e a' w' h' hst=> ?_);cases st1 with
 |norm s1 μ1=>cases e<;>simp only[StR]at hst;obtain⟨G1,hs1⟩:=hst;obtain⟨s3,G3,h3,R3,E3⟩:=qc h' hs1.1;obtain⟨s2,G2,h2,R2,E2⟩:=gJ h3 R3;obtain⟨s4,G4,h2,R4,E4⟩:=uU (R2.lev▸h2) R2 (hs1.2.1.trans (E3.trans E2)) hs1.2.2.2.2;exact hloop _ _ _ _ _ _ h2 L G4 w' a' Q T G0 w0 n ds hc hkn ⟨R4,E4,hs1.2.2⟩ hQ
 |exit i s1 μ1=>
  cases e<;>first|exact hst.elim|skip
  simp only[StR]at hst;obtain⟨rfl,G1,hs1⟩:=hst;obtain⟨s2,G2,h2,R2,E2⟩:=gJ h' hs1.1;simp only[bP]at h2;subst h2;exact hQ (.exit i) a' w' ⟨rfl,G2,R2,hs1.2.1.trans E2,hs1.2.2⟩
 |ret s1 μ1=>
  cases e<;>first|exact hst.elim|skip
  simp only[StR]at hst;obtain⟨G1,hs1⟩:=hst;obtain⟨s2,G2,h2,R2,E2⟩:=gJ h' hs1.1;simp only[bP]at h2;subst h2;exact hQ .ret a' w' ⟨G2,R2,hs1.2.1.trans E2,hs1.2.2⟩
 |panic v s1 μ1=>
  cases e<;>first|exact hst.elim|skip
  simp only[StR]at hst;obtain⟨G1,pv,rfl,hv,hs1⟩:=hst;obtain⟨s2,G2,h2,R2,E2⟩:=gJ h' hs1.1;simp only[bP]at h2;subst h2;exact hQ _ a' w' ⟨G2,pv,rfl,de E2.le _ _ hv,R2,hs1.2.1.trans E2,hs1.2.2⟩
def WU (hm:P.follows .mixedOrders=true)(hrho:iC P W0 ρ)(hloop:qv P W0 ρ)(hseg:ui P W0 ρ){H:Hints}{lv:List (Nat×Nat)}{c:Code}{s:S}{μ:Mu}{st:St}(h:Ck P ρ H lv c s μ=some st){L:Nat}{G G0:Gh}{w w0:World}{a:Act}{Q:Exit->Act->World->Prop}
 {T:Nat->Prop} {n:Nat} {ds:Keep} (hc:g8 n ds.slot c=true) (hkn:Kn W0 w0 T) (hs:mz L T G0 w0 n ds s μ a w G) (hQ: ∀e a' w',StR L T G0 w0 n ds st e a' w'->Q e a' w'):c.wp P Q a w:=by
 unfold Ck at h;refine gH hm hrho hloop hseg c hc hkn h hs λst1 e a' w' h' hst=> ?_;cases st1 with
 |norm s1 μ1=>cases e<;>simp only[StR]at hst;obtain⟨G1,hs1⟩:=hst;obtain⟨s2,G2,h2,R2,E2⟩:=gJ h' hs1.1;simp only[bP]at h2;subst h2;exact hQ .normal a' w' ⟨G2,R2,hs1.2.1.trans E2,hs1.2.2⟩
 |exit i s1 μ1=>
  cases e<;>first|exact hst.elim|skip
  simp only[StR]at hst;obtain⟨rfl,G1,hs1⟩:=hst;obtain⟨s2,G2,h2,R2,E2⟩:=gJ h' hs1.1;simp only[bP]at h2;subst h2;exact hQ (.exit i) a' w' ⟨rfl,G2,R2,hs1.2.1.trans E2,hs1.2.2⟩
 |ret s1 μ1=>
  cases e<;>first|exact hst.elim|skip
  simp only[StR]at hst;obtain⟨G1,hs1⟩:=hst;obtain⟨s2,G2,h2,R2,E2⟩:=gJ h' hs1.1;simp only[bP]at h2;subst h2;exact hQ .ret a' w' ⟨G2,R2,hs1.2.1.trans E2,hs1.2.2⟩
 |panic v s1 μ1=>
  cases e<;>first|exact hst.elim|skip
  simp only[StR]at hst;obtain⟨G1,pv,rfl,hv,hs1⟩:=hst;obtain⟨s2,G2,h2,R2,E2⟩:=gJ h' hs1.1;simp only[bP]at h2;subst h2;exact hQ _ a' w' ⟨G2,pv,rfl,de E2.le _ _ hv,R2,hs1.2.1.trans E2,hs1.2.2⟩
end
section
variable {P:Program}{W0:World}{ρ:Rho}{L:Nat}{G G':Gh}{w w':World}{s:S}{μ μ':Mu}{tm:Array Value}
def Hn (tm:Array Value)(x:ResultVar):Sem Value:=match x with
 | .tmp t=>pure (tm.getD t undef)| .cell a t=>do loadVar t (<-asAddr (tm.getD a undef))
def adc (R:Rel G L s μ tm w){x:ResultVar}{y:LV}(h:WO P s x=some y): ∃v,(Hn tm x).run P w= .ok v w/\LVR G w L s.lam.length y v/\ ∀b,b6 y v b-> ∃t,b6 (s.fr t) (tm.getD t undef) b:=by
 cases x with
 |tmp t=>simp only[WO,bP]at h;subst h;exact⟨_,rfl,R.fr t,λb hb=>⟨t,hb⟩⟩|cell c t=>
  simp only[WO]at h;split at h<;>try(simp at h;done)
  rename_i i off he;have hv:=R.fr c;rw[he]at hv;simp only[LVR]at hv;unfold cw at h;obtain⟨d,hd,h⟩:=bA.1 h;obtain⟨cv,h1,h2,h3⟩:=uK (R.lam i) h ⟨d,hd⟩;refine⟨cv,?_,h2,λb hb=>absurd hb (h3 b)⟩;simp only[Instr.loadAt,Instr.sureAddr,dk,fA,dq]at h1;simp only[Hn,hv.2,asAddr,dk,fA,dq];exact h1
def Kd (R:Rel G L s μ tm w): ∀{l:List ResultVar} {ys:List LV},C9 P s l=some ys-> ∃vs:List Value,(l.mapM (Hn tm)).run P w= .ok vs w/\vs.length=ys.length/\
 ∀j y,ys[j]? =some y->LVR G w L s.lam.length y (vs.getD j undef)/\ ∀b,b6 y (vs.getD j undef) b-> ∃t,b6 (s.fr t) (tm.getD t undef) b
 |[],ys,h=>by simp only[C9,bP]at h;simp_all|x::r,ys,h=>by simp only[C9]at h;obtain⟨y,h1,h⟩:=bA.1 h;obtain⟨l,h2,h⟩:=bA.1 h;simp only[bP]at h;subst h;obtain⟨v,k1,k2,k3⟩:=adc R h1;obtain⟨vs,k4,k5,k6⟩:=Kd R h2;refine⟨v::vs,by simp only[List.mapM_cons,dk,k1,dq,k4,fA],by simp[k5],λj z hz=> ?_⟩;grind
def RK (R:Rel G L s μ tm w){fn:Func}{ys:List LV}(h:C9 P s fn.results.toList=some ys):
 ∃v,(results fn tm).run P w= .ok v w/\LVR G w L s.lam.length (eW ys) v/\ ∀b,b6 (eW ys) v b-> ∃t,b6 (s.fr t) (tm.getD t undef) b:=by
 obtain⟨vs,h1,h2,h3⟩:=Kd R h;have hm:(fn.results.mapM (Hn tm)).run P w= .ok vs.toArray w:=by rw[Array.mapM_eq_mapM_toList,Sem.run_map,h1];rfl
 have hrun:(results fn tm).run P w= .ok (if h:vs.toArray.size=1 then vs.toArray[0]else .tuple vs.toArray) w:=by
  unfold results;rw[dk];have e: ∀x:Sem (Array Value),x.run P w= .ok vs.toArray w->(x.run P w).andThen (λa w'=>Sem.run P (pure (if h:a.size=1 then a[0]else Value.tuple a)) w')=
   .ok (if h:vs.toArray.size=1 then vs.toArray[0]else .tuple vs.toArray) w:=λx hx=>by rw[hx];rfl
  exact e _ hm
 refine⟨_,hrun,?_⟩;by_cases hl:ys.length=1
 ·cases ys with
  |nil=>simp at hl|cons y r=>
   cases r with
   |cons=>simp at hl|nil=>
    cases vs with
    |nil=>simp at h2|cons v r=>
     cases r with|cons=>simp at h2|nil=>simpa[eW]using h3 0 y rfl
 ·have e:eW ys= .ltup (ys.map Go.Abs.strip1):=by
   cases ys with
   |nil=>rfl|cons t r=>
    cases r with|nil=>simp at hl|cons u r=>rfl
  rw[e,dif_neg (by simpa[h2]using hl)];refine⟨?_,λb hb=>by simp[b6]at hb⟩;simp only[LVR];refine⟨_,rfl,?_⟩;simp only;clear e hl hrun hm h1 h
  induction ys generalizing vs with
  |nil=>cases vs<;>simp_all [en]|cons y r ih=>
   cases vs with|nil=>simp at h2|cons v vs=>have h0:=h3 0 y rfl;simp only[List.getD_cons_zero]at h0;simp only[dr,en];refine⟨v,vs,rfl,(nf h0.1).2,(nf h0.1).1,ih vs (by simpa using h2) λj z hz=> ?_⟩;simpa using h3 (j+1) z (by simpa using hz)
def Rel.leave {G0:Gh}{w0:World}{T:Nat->Prop}(R:Rel G L s μ tm w)(E:Ext L T G0 w0 G w (bM G w s μ tm))(h0:G0.n L=0)(hgt: ∀l,L<l->G0.n l=0){vs:List LV}{tmr:Array Value}
 (hv: ∀j x,vs[j]? =some x->LVR (G.cut L) w L 0 x (tmr.getD j undef)) (ho: ∀j x b,vs[j]? =some x->b6 x (tmr.getD j undef) b->(∃t,b6 (s.fr t) (tm.getD t undef) b)/\j=0):
 Rel (G0.withO G.O) L (cu vs) μ tmr w/\Ext L T G0 w0 (G0.withO G.O) w (bM (G0.withO G.O) w (cu vs) μ tmr)/\Le (G.cut L) w (G0.withO G.O) w:=by
 have hμ:=R.lev;have hleC:Le (G.cut L) w (G0.withO G.O) w:=by
  refine⟨λ_ _ _ h hb=>⟨h,hb⟩,λlev i h=> ?_,λ_ _ _ h hc=>⟨h,hc⟩,λb cur e fz h=>⟨cur,fz,h,rfl⟩⟩;simp only[Gh.cut]at h;split at h
  ·rename_i hl;obtain⟨h1,h2⟩:=E.lev lev hl;simp only[Gh.withO,Gh.cut];exact⟨by rw[<-h2];exact h,(h1 i).1.symm,(h1 i).2.symm⟩
  ·omega
 have hβ: ∀lev i,lev<L->(G0.withO G.O).β lev i=G.β lev i/\(G0.withO G.O).sz lev i=G.sz lev i:=λlev i hl=>⟨((E.lev lev hl).1 i).1.symm,((E.lev lev hl).1 i).2.symm⟩;have hlive: ∀lev i,b8 (bT (μ++[(cu vs).lam]) lev i)->lev<L/\b8 (bT (μ++[s.lam]) lev i):=by intro lev i h;obtain⟨h1,h2⟩:=qO h;refine⟨bu,?_⟩;have h3:bT (μ++[s.lam]) lev i=ce μ lev i:=cV h1;rw[h3,<-h2];exact h
 have hown: ∀q b,bK (G0.withO G.O) w (cu vs).fr tmr (μ++[(cu vs).lam]) q b->(∃t,q= .fr 0/\bK G w s.fr tm (μ++[s.lam]) (.fr t) b)\/(∃lev i k,q= .ob lev i k/\bK G w s.fr tm (μ++[s.lam]) q b):=by
  intro q b h;cases q with
  |fr t=>
   simp only[bK,fh]at h;cases hx:vs[t]? with
   |none=>rw[hx]at h;simp[b6]at h|some x=>rw[hx]at h;obtain⟨⟨u,hu⟩,rfl⟩:=ho t x b hx h;exact .inl ⟨u,rfl,hu⟩
  |ob lev i k=>have hl:=jQ h;obtain⟨h1,h2⟩:=qO hl;refine .inr ⟨lev,i,k,rfl,jR (fr':=(cu vs).fr) (tm':=tmr) ?_ (hβ lev i bu).1 rfl h⟩;rw[show bT (μ++[(cu vs).lam]) lev i=ce μ lev i from h2];exact(cV h1).symm
 refine⟨⟨hμ,λt=> ?_,λi=> ?_,λlev i hl=> ?_,λlev i lev' i' h h' e=> ?_,λq q' b h h'=> ?_,λq b lev i h h' e=> ?_,λlev hl=> ?_,?_,hgt⟩,⟨⟨E.le.map,λlev i h=>⟨h,rfl,rfl⟩,E.le.imm,E.le.blk⟩,E.os,E.tape,E.output,E.size,E.keep,λb hb=>E.grow b ?_,λl hl=>⟨λ_=>⟨rfl,rfl⟩,rfl⟩⟩,hleC⟩
 ·rw[fh];cases hx:vs[t]? with|none=>simp[LVR,VR]|some x=>have h1:=hv t x hx;refine Er x _ (ga (L:=L) (nl:=0) hleC (ct _) (λi hi=>by omega) x _ (λb _=>⟨rfl,rfl⟩) h1)
 ·have:bU (cu vs).lam i= .dead:=by simp[cu,bU]
  rw[this];trivial
 ·rw[(hβ lev i hl).1,(hβ lev i hl).2];refine eS (G:=G.below lev) (G':=(G0.withO G.O).below lev) (w':=w) ⟨λ_ _ _ h hb=>⟨h,hb⟩,λl j hj=> ?_,λ_ _ _ h hc=>⟨h,hc⟩,λb cur e fz h=>⟨cur,fz,h,rfl⟩⟩ (ct _) (λ_ h=>by omega) (λ_=>⟨rfl,rfl⟩) (λ_ _ _ _ _ _ _ _ _ _ _=>⟨rfl,rfl⟩) (R.mu lev i hl);simp only[Gh.below,Gh.withO]at hj |-;split at hj
  ·rename_i hll;obtain⟨h1,h2⟩:=E.lev l bu;rw[bC hll];exact⟨by rw[<-h2];exact hj,(h1 j).1.symm,(h1 j).2.symm⟩
  ·omega
 ·have h1:=hlive lev i h;have h2:=hlive lev' i' h';rw[(hβ lev i h1.1).1,(hβ lev' i' h2.1).1]at e;exact R.inj lev i lev' i' h1.2 h2.2 e
 ·rcases hown q b h with⟨t,rfl,h1⟩|⟨lev,i,k,rfl,h1⟩<;>rcases hown q' b h' with⟨t',rfl,h1'⟩|⟨lev',i',k',rfl,h1'⟩
  ·rfl
  ·have:=R.own _ _ b h1 h1';cases this
  ·have:=R.own _ _ b h1 h1';cases this
  ·exact R.own _ _ b h1 h1'
 ·have h2:=hlive lev i h';rw[(hβ lev i h2.1).1]at e;rcases hown q b h with⟨t,rfl,h1⟩|⟨lev',i',k',rfl,h1⟩
  ·exact R.apart _ b lev i h1 h2.2 e
  ·exact R.apart _ b lev i h1 h2.2 e
 ·have:=(E.lev lev hl).2;rw[show (G0.withO G.O).n lev=G0.n lev from rfl,<-this];exact R.nlt lev hl
 ·simp only[cu,d6,du];exact h0
 ·rcases hb with⟨q,hb⟩|⟨lev,i,hb,e⟩
  ·rcases hown q b hb with⟨t,rfl,h1⟩|⟨lev,i,k,rfl,h1⟩
   ·exact .inl ⟨_,h1⟩
   ·exact .inl ⟨_,h1⟩
  ·have h2:=hlive lev i hb;exact .inr ⟨lev,i,h2.2,by rw[<-(hβ lev i h2.1).1];exact e⟩
def Se (h0:G.n L=0)(hgt: ∀l,L<l->G.n l=0):Le G w (G.cut L) w:=by
 refine⟨λ_ _ _ h hb=>⟨h,hb⟩,λlev i h=>⟨?_,rfl,rfl⟩,λ_ _ _ h hc=>⟨h,hc⟩,λb cur e fz h=>⟨cur,fz,h,rfl⟩⟩;have hl:lev<L:=by grind
 simp only[Gh.cut,bC hl];exact h
def zS: ∀{l:List LV},kM l=true-> ∀x∈l,m6 x=true
 |[],_,x,h=>by simp at h|y::r,hp,x,h=>by
  simp only[kM]at hp;split at hp<;>try(simp at hp;done)
  rcases ed.1 h with rfl|h
  ·assumption
  ·exact zS hp x h
def ab8 {nl:Nat}{x:LV}{v:Value}(hf:nw x=true)(hr:LVR G w L nl x v)(hb:(G.n L=0/\ ∀l,L<l->G.n l=0)\/fj L x=true):LVR (G.cut L) w L 0 x v:=by
 have one: ∀{x:LV} {v:Value},m6 x=true->LVR G w L nl x v->((G.n L=0/\ ∀l,L<l->G.n l=0)\/rT L x=true)->LVR (G.cut L) w L 0 x v:=by
  intro x v hp hr hb;cases x<;>simp only[m6,d6]at hp<;>simp only[LVR]at hr |-
  ·rcases hb with⟨h0,hgt⟩|hb
   ·exact de (Se h0 hgt) _ _ hr
   ·exact iI _ _ hb hr
  ·rcases hb with⟨h0,hgt⟩|hb
   ·exact pr (Se h0 hgt) (λ_ _ _ _=>⟨rfl,rfl⟩) hr
   ·exact Ji hb hr
 unfold nw at hf;split at hf
 ·exact one rfl hr (hb.imp id (λh=>h))
 ·exact one rfl hr (hb.imp id (λh=>h))
 ·rename_i xs;simp only[LVR]at hr |-;obtain⟨vs,e,hl⟩:=hr;refine⟨vs,e,?_⟩;have hb':(G.n L=0/\ ∀l,L<l->G.n l=0)\/ ∀x∈xs,rT L x=true:=hb.imp id λh=>by simpa[fj]using h
  have hm:=zS hf;clear hb hf e;generalize vs.toList=l at hl
  induction xs generalizing l with|nil=>simpa[en]using hl|cons x xs ih=>simp only[en]at hl |-;grind
 ·simp at hf
def Rel.retm (R:Rel G L s μ tm w){tm':Array Value}(hf: ∀t,s.fr t= .cv .undef\/tm'.getD t undef=tm.getD t undef):
 Rel G L s μ tm' w/\ ∀q b,bK G w s.fr tm' (μ++[s.lam]) q b↔bK G w s.fr tm (μ++[s.lam]) q b:=by
 have hown: ∀q b,bK G w s.fr tm' (μ++[s.lam]) q b↔bK G w s.fr tm (μ++[s.lam]) q b:=by
  intro q b;cases q with
  |fr t=>
   simp only[bK];rcases hf t with h|h
   ·rw[h];simp[b6]
   ·rw[h]
  |ob lev i k=>exact pm
 refine⟨⟨R.lev,λt=> ?_,R.lam,R.mu,R.inj,λl l' b h h'=>R.own l l' b ((hown l b).1 h) ((hown l' b).1 h'),λl b lev i h h'=>R.apart l b lev i ((hown l b).1 h) h',R.nlt,R.nL,R.ngt⟩,hown⟩;rcases hf t with h|h
 ·rw[h];simp[LVR,VR]
 ·rw[h];exact R.fr t
def Bx {fn:Func}{G0:Gh}{w0:World}{T:Nat->Prop}{out:Out}(hfk:ll P fn.results.toList s μ=some out)(R':Rel G L s μ tm w)(E':Ext L T G0 w0 G w (bM G w s μ tm))
 (h0:G0.n L=0) (hgt: ∀l,L<l->G0.n l=0): ∃v,(results fn tm).run P w= .ok v w/\km L T G0 w0 out (.returned v) w:=by
 unfold ll at hfk;obtain⟨ys,hys,hfk⟩:=bA.1 hfk;dsimp only at hfk;obtain⟨hfl,hfk⟩:=bR.1 hfk;obtain⟨v,hv1,hr1,hr2⟩:=RK R' hys;have hout:out= .ret (eW ys) μ/\((G.n L=0/\ ∀l,L<l->G.n l=0)\/fj L (eW ys)=true):=by
  split at hfk
  ·rename_i hp;simp only[bP]at hfk;refine⟨hfk.symm,.inl ⟨?_,R'.ngt⟩⟩;have:=R'.nL;simp_all
  ·obtain⟨hbl,hfk⟩:=bR.1 hfk;simp only[bP]at hfk;rw[R'.lev]at hbl;simp_all
 obtain⟨rfl,hbel⟩:=hout;refine⟨v,hv1,?_⟩
 obtain ⟨R3, E3, _⟩ := R'.leave (vs := [eW ys]) (tmr := #[v]) E' h0 hgt (λj x hx => by
  cases j with
  |zero=>simp only[ft,bP]at hx;subst hx;exact ab8 hfl hr1 hbel
  |succ j=>simp at hx) (λj x b hx hob=>by
  cases j with
  |zero=>simp only[ft,bP]at hx;subst hx;exact⟨hr2 b hob,rfl⟩
  |succ j=>simp at hx)
 exact⟨_,R3,E3⟩
def Pu (hm:P.follows .mixedOrders=true)(hrho:iC P W0 ρ)(hloop:qv P W0 ρ)(hseg:ui P W0 ρ){H:Hints}{f:FuncId}{fn:Func}{c:Code}{args:List LV}{out:Out}(hf:P.funcs[f]? =some fn)(hb:fn.body=some c)
 (h:KQ P ρ H fn c args μ=some out):fT P W0 f args μ out:=by
 unfold KQ at h;obtain⟨hg,h⟩:=bR.1 h;simp only[cE,iL]at hg;obtain⟨⟨hg1,hg2⟩,hg3⟩:=hg;have hg1:=gr hg1;refine⟨⟨fn,c,hf,hb,hg3⟩,λG w cargs hsz R hkn=> ?_⟩;refine calls_of_wp hf hb ?_;have hsize:(cargs++Array.replicate (fn.ntmps-cargs.size) undef).size=fn.ntmps:=b7;obtain⟨R1,hO⟩:=R.retm (tm':=cargs++Array.replicate (fn.ntmps-cargs.size) undef) λt=>by
  by_cases ht:t<cargs.size
  ·right;simp[ex,Dg ht]
  ·left;rw[fh,eB bu];rfl
 have h0:G.n μ.length=0:=by simpa[cu]using R.nL
 refine gH hm hrho hloop hseg (L:=μ.length) (T:=bM G w (cu args) μ cargs) (G0:=G) (w0:=w) (n:=fn.ntmps) (ds:=⟨[],none⟩) c hg2 hkn h ⟨R1,Ext.refl G w λb hb=> ?_,hsize,⟨rfl,λ_ _ e=>by cases e⟩,h0⟩ ?_
 ·rcases hb with⟨q,hb⟩|hb
  ·exact .inl ⟨q,(hO q b).1 hb⟩
  ·exact .inr hb
 ·have fin: ∀(s':S) (μ':Mu) (a':Act) (w':World) (G':Gh),ll P fn.results.toList s' μ'=some out->mz μ.length (bM G w (cu args) μ cargs) G w fn.ntmps ⟨[],none⟩ s' μ' a' w' G'->
   a'.defers=[]/\ ∃v,(results fn a'.tmps).run P w'= .ok v w'/\km μ.length (bM G w (cu args) μ cargs) G w out (.returned v) w':=by
   intro s' μ' a' w' G' hfk hs;obtain⟨R',E',_,hds,_⟩:=hs;obtain⟨v,h1,h2⟩:=Bx hfk R' E' h0 R.ngt;exact⟨hds.1,v,h1,h2⟩
  intro st e a' w' hst hr;cases st with
  |norm s' μ'=>cases e<;>simp only[StR]at hr;obtain⟨G',hs⟩:=hr;exact fin s' μ' a' w' G' hst hs
  |ret s' μ'=>cases e<;>simp only[StR]at hr;obtain⟨G',hs⟩:=hr;exact fin s' μ' a' w' G' hst hs
  |exit i s' μ'=>simp at hst|panic v s' μ'=>cases e<;>simp only[StR]at hr;obtain⟨G',pv,rfl,hv,R',E',_,hds,_⟩:=hr;obtain⟨hbl,hst⟩:=bR.1 hst;simp only[bP]at hst;subst hst;rw[R'.lev]at hbl;refine⟨hds.1,?_⟩;obtain⟨R3,E3,hle⟩:=R'.leave (vs:=[]) (tmr:= #[]) E' h0 R.ngt (λj x hx=>by simp at hx) (λj x b hx=>by simp at hx);exact⟨_,pv,rfl,de hle _ _ (iI _ _ hbl hv),R3,E3⟩
end
end Go.Abs
