/-
  The statement ExprChecksCardSaid, proved; part 4 of 10 of its proof.
-/
import Derived.Test.YtmemoghbijcebaaGreatDoorP2
import Derived.Recover
set_option linter.all false
set_option linter.unusedSectionVars false
set_option linter.unusedVariables false
set_option linter.unusedSimpArgs false
namespace Go.Abs
open Go
section
variable {P:Program}{ρ:Rho}{h:OpHint}{o:Oper}{s t s':S}{μ ν μ':Mu}{v:LV}
theorem BX (x:LV):strip1 (strip1 x)=strip1 x:=by cases x<;>rfl
theorem wz (x:LV):strip (strip x)=strip x:=by
 cases x<;>first|rfl|(simp only[strip,List.map_map];congr 1;exact List.map_congr_left fun x _=>BX x)
inductive SameOb:Ob→Ob→Prop where
 |refl (o:Ob):SameOb o o
 |cells {cs ds:List LV}:cs.map strip=ds.map strip→SameOb (.cells cs) (.cells ds)
section
variable {P:Program}
theorem SameOb.symm {a b:Ob}(h:SameOb a b):SameOb b a:=by
 cases h with
 |refl=>exact .refl _
 |cells e=>exact .cells e.symm
theorem SameOb.live {a b:Ob}(h:SameOb a b)(hl:aK b):aK a:=by
 cases h with
 |refl=>exact hl
 |cells e=>trivial
theorem Gd (x:LV):bP (strip x)=bP x:=by cases x<;>rfl
theorem py: ∀(l:List LV),jN (l.map strip)=jN l
 |[]=>rfl
 |x::r=>by simp only[List.map_cons,jN,Gd,py r]
theorem SameOb.read {a b:Ob}(h:SameOb a b)(t:TypeId)(off:Nat):bv P t b off=bv P t a off:=by
 cases h with
 |refl=>rfl
 | @cells cs ds e=>
  unfold bv
  congr;funext _
  have hl:cs.length=ds.length:=by simpa using congrArg List.length e
  simp only[lH]
  cases bD P t with
  |true=>
   dsimp only
   congr;funext n
   rw[hl]
   have:jN ((ds.drop off).take n)=jN ((cs.drop off).take n):=by
    rw[←py,←py ((cs.drop off).take n),List.map_take,List.map_take,List.map_drop,List.map_drop,e]
   rw[this]
  |false=>
   have:(ds[off]?).map strip=(cs[off]?).map strip:=by rw[←List.getElem?_map,←List.getElem?_map,e]
   dsimp only
   cases h1:ds[off]? <;>cases h2:cs[off]? <;>rw[h1,h2]at this<;>simp_all
end
def dN (k:Kind)(s t:S)(μ ν:Mu):Prop:=
 match k with
 | .plain=>True
 | .rd=> ∀i,aK (aG s.lam i)→SameOb (aG s.lam i) (aG t.lam i)
 | .tk=>t.lam=s.lam
 | .wr=>t.lam=s.lam
 | .ap=>t.lam.length=s.lam.length
 | .look=>(∀lev i,aK (aU μ lev i)→SameOb (aU μ lev i) (aU ν lev i))∧t.pushed=s.pushed
 | .tku=>ν=μ∧t.pushed=s.pushed
 | .ou=>ν=μ∧t.pushed=s.pushed
 | .all=>t.lam=s.lam∧t.pushed=s.pushed∧ν=μ
def Eff (P:Program)(ρ:Rho)(h:OpHint)(o:Oper)(k:Kind)(s t:S)(μ ν:Mu)(v:LV)(s':S)(μ':Mu):Prop:=
 match k with
 | .plain=>s'=ab h.take s∧μ'=μ∧a7 P ρ h o t ν=some (v,ab h.take t,ν)
 | .rd=>s'=ab h.take s∧μ'=μ∧a7 P ρ h o t ν=some (v,ab h.take t,ν)
 | .tk=> ∃lam',s'={ab h.take s with lam:=lam'}∧μ'=μ∧(∀i,SameOb (aG s.lam i) (aG lam' i))∧t.lam=s.lam∧a7 P ρ h o t ν=some (v,{ab h.take t with lam:=lam'},ν)
 | .wr=> ∃lam',s'={ab h.take s with lam:=lam'}∧μ'=μ∧a7 P ρ h o t ν=some (v,{ab h.take t with lam:=lam'},ν)
 | .ap=> ∃ob,s'={ab h.take s with lam:=s.lam++[ob]}∧μ'=μ∧a7 P ρ h o t ν=some (v,{ab h.take t with lam:=t.lam++[ob]},ν)
 | .look=>s'=ab h.take s∧μ'=μ∧a7 P ρ h o t ν=some (v,ab h.take t,ν)
 | .tku=>s'=ab h.take s∧(∀lev i,SameOb (aU μ lev i) (aU μ' lev i))∧ν=μ∧a7 P ρ h o t ν=some (v,ab h.take t,μ')
 | .ou=>s'=ab h.take s∧a7 P ρ h o t ν=some (v,ab h.take t,μ')
 | .all=>s'.fr=(ab h.take s).fr∧a7 P ρ h o t ν=some (v,{s' with fr:=(ab h.take t).fr},μ')
theorem Ag.self:Ag h o s s:=fun _ _=>rfl
theorem Ot (hp: ∀t ν,Ag h o s t→bX P ρ h o s t μ ν)(ha:Ag h o s t)(hst:a7 P ρ h o s μ=some (v,s',μ')):Eff P ρ h o .plain s t μ ν v s' μ':=by
 have h1:=hp s μ Ag.self
 have h2:=hp t ν ha
 unfold bX at h1 h2
 rw[hst,a6]at h1 h2
 simp only[Option.some.injEq,Prod.mk.injEq,true_and]at h1
 exact⟨h1.1,h1.2,h2⟩
theorem wn {ty:TypeId}{ob:Ob}{off:Nat}{w:LV}(h:bv P ty ob off=some w):aK ob:=by
 unfold bv at h
 obtain⟨_,_,h⟩:=ac.1 h
 cases ob<;>first|trivial|simp[lH]at h
theorem BH {ty:TypeId}{l:Lam}{i off:Nat}{q:LV×Ob}(h:gc P ty (aG l i) off=some q)(j:Nat):SameOb (aG l j) (aG (l.set i q.2) j):=by
 unfold gc at h
 obtain⟨_,_,h⟩:=ac.1 h
 split at h<;>try(cases h;done)
 split at h<;>try(cases h;done)
 rename_i cs hcs
 split at h<;>try(cases h;done)
 rename_i x hx
 simp only[Option.some.injEq]at h
 subst h
 have hi:i<l.length:=ia (by rw[hcs];trivial)
 rw[mz hi]
 split
 ·rename_i e
  subst e
  rw[hcs]
  refine .cells ?_
  rw[List.map_set]
  apply List.ext_getElem?
  intro k
  by_cases hk:k=off
  ·subst hk
   have hlt:k<cs.length:=(List.getElem?_eq_some_iff.1 hx).1
   rw[List.getElem?_set_self (by simpa using hlt),List.getElem?_map,hx,wz]
   rfl
  ·rw[List.getElem?_set_ne (Ne.symm hk)]
 ·exact .refl _
theorem Gl {ty:TypeId}{μ:Mu}{lv ix off:Nat}{q:LV×Ob}(h:gc P ty (aU μ lv ix) off=some q)(lev i:Nat):SameOb (aU μ lev i) (aU (bj μ lv ix q.2) lev i):=by
 have hl:aK (aU μ lv ix):=by
  unfold gc at h
  obtain⟨_,_,h⟩:=ac.1 h
  split at h<;>try(cases h;done)
  split at h<;>try(cases h;done)
  rename_i cs hcs
  rw[hcs];trivial
 rw[xv hl]
 split
 ·rename_i e
  obtain⟨rfl,rfl⟩:=e
  have:=BH (l:=[aU μ lev i]) (i:=0) (q:=q) (off:=off) (ty:=ty) (by simpa[aG]using h) 0
  simpa[aG]using this
 ·exact .refl _
theorem QY {ty:TypeId}{x:Operand}(ho:o.op= .load ty x)(ha:Ag h o s t)(hc:dN (aY h o) s t μ ν)(hst:a7 P ρ h o s μ=some (v,s',μ')):Eff P ρ h o (aY h o) s t μ ν v s' μ':=by
 have e:=ha x (by simp[ho,Op.operands])
 have l1:=aQ h.take s
 have l2:=aQ h.take t
 have hs1:a7 P ρ h o s μ=gB P h ty (evA h s.fr x) (ab h.take s) μ fun v s μ=>some (v,s,μ):=by simp only[a7,ck,ho]
 have ht1:a7 P ρ h o t ν=gB P h ty (evA h s.fr x) (ab h.take t) ν fun v s μ=>some (v,s,μ):=by simp only[a7,ck,ho,e]
 rw[hs1]at hst
 unfold Eff
 rw[ht1]
 clear hs1 ht1 e ha
 simp only[aY,ho]at hc ⊢
 unfold gB at hst ⊢
 generalize evA h s.fr x=q at hst ⊢
 cases hou:h.outer with
 |false=>
  simp only[hou]at hc hst ⊢
  cases hce:h.cell with
  |false=>
   simp only[hce,dN]at hc hst ⊢
   cases q with
   |loc i off=>
    dsimp only at hst ⊢
    obtain⟨w,h1,h2⟩:=ac.1 hst
    obtain⟨y,h3,_⟩:=ss h2
    simp only[Option.some.injEq,Prod.mk.injEq]at h3
    obtain⟨rfl,rfl,rfl⟩:=h3
    refine⟨rfl,rfl,ac.2 ⟨w,?_,?_⟩⟩
    ·rw[l1.1]at h1
     rw[l2.1,(hc i (wn h1)).read]
     exact h1
    ·have:(kf P h.arr ty w fun v=>some (v,ab h.take t,ν))=opt (kf P h.arr ty w fun v=>some (v,ab h.take s,μ)) fun q=>some (q.1,ab h.take t,ν):=by
      rw[wb]
      rfl
     rw[this,h2]
     rfl
   |cv c=>
    dsimp only at hst ⊢
    obtain⟨cs,h1,h2⟩:=ac.1 hst
    obtain⟨c',h3,h4⟩:=ac.1 h2
    simp only[Option.some.injEq,Prod.mk.injEq]at h4
    obtain⟨rfl,rfl,rfl⟩:=h4
    exact⟨rfl,rfl,ac.2 ⟨cs,h1,ac.2 ⟨c',h3,rfl⟩⟩⟩
   |osl _=>cases hst
   |lsl _ _ _=>cases hst
   |lclo _ _=>cases hst
   |mloc _=>cases hst
   |tloc _ _ _=>cases hst
   |ost _=>cases hst
   |stl _=>cases hst
   |ltup _=>cases hst
  |true=>
   simp only[hce,dN]at hc hst ⊢
   cases q with
   |loc i off=>
    dsimp only at hst ⊢
    obtain⟨w,h1,h2⟩:=ac.1 hst
    simp only[Option.some.injEq,Prod.mk.injEq]at h2
    obtain⟨rfl,rfl,rfl⟩:=h2
    refine⟨_,rfl,rfl,fun j=> ?_,hc,ac.2 ⟨w,?_,?_⟩⟩
    ·rw[l1.1]at h1 ⊢
     exact BH h1 j
    ·rw[l2.1,hc,←l1.1];exact h1
    ·rw[l2.1,hc,←l1.1]
   |cv c=>
    dsimp only at hst ⊢
    obtain⟨cs,h1,h2⟩:=ac.1 hst
    obtain⟨c',h3,h4⟩:=ac.1 h2
    simp only[Option.some.injEq,Prod.mk.injEq]at h4
    obtain⟨rfl,rfl,rfl⟩:=h4
    refine⟨s.lam,by rw[←l1.1],rfl,fun _=> .refl _,hc,ac.2 ⟨cs,h1,ac.2 ⟨c',h3,?_⟩⟩⟩
    rw[←hc,←l2.1]
   |osl _=>cases hst
   |lsl _ _ _=>cases hst
   |lclo _ _=>cases hst
   |mloc _=>cases hst
   |tloc _ _ _=>cases hst
   |ost _=>cases hst
   |stl _=>cases hst
   |ltup _=>cases hst
 |true=>
  simp only[hou]at hst hc ⊢
  cases q with
  |cv c=>
   dsimp only at hst ⊢
   obtain⟨q,h1,hst⟩:=ac.1 hst
   have key: ∀{own:Bool} {w:LV} {m m':Mu},(cW P own ty w fun v=>some (v,ab h.take s,m))=some (v,s',μ')→s'=ab h.take s∧μ'=m∧(cW P own ty w fun v=>some (v,ab h.take t,m'))=some (v,ab h.take t,m'):=by
    intro own w m m' hk
    obtain⟨y,h3,_⟩:=fF hk
    simp only[Option.some.injEq,Prod.mk.injEq]at h3
    refine⟨h3.2.1.symm,h3.2.2.symm,?_⟩
    have:(cW P own ty w fun v=>some (v,ab h.take t,m'))=opt (cW P own ty w fun v=>some (v,ab h.take s,m)) fun q=>some (q.1,ab h.take t,m'):=by
     rw[ib]
     rfl
    rw[this,hk]
    rfl
   cases hce:h.cell with
   |false=>
    simp only[hce,dN]at hst hc ⊢
    obtain⟨hsame,hpu⟩:=hc
    obtain⟨w,h2,hst⟩:=ac.1 hst
    obtain⟨e1,e2,h4⟩:=key (m':=ν) hst
    refine⟨e1,e2,ac.2 ⟨q,h1,ac.2 ⟨w,?_,h4⟩⟩⟩
    rw[(hsame _ _ (wn h2)).read]
    exact h2
   |true=>
    simp only[hce,dN]at hst hc ⊢
    obtain⟨rfl,hpu⟩:=hc
    obtain⟨w,h2,hst⟩:=ac.1 hst
    obtain⟨e1,e2,h4⟩:=key (m':=μ') hst
    refine⟨e1,fun lev i=> ?_,rfl,ac.2 ⟨q,h1,ac.2 ⟨w,h2,?_⟩⟩⟩
    ·rw[e2]
     exact Gl h2 lev i
    ·rw[←e2]
     exact h4
  |loc i off=>cases hst
  |osl _=>cases hst
  |lsl _ _ _=>cases hst
  |lclo _ _=>cases hst
  |mloc _=>cases hst
  |tloc _ _ _=>cases hst
  |ost _=>cases hst
  |stl _=>cases hst
  |ltup _=>cases hst
theorem Ou {ty:TypeId}{x y:Operand}(ho:o.op= .store ty x y)(ha:Ag h o s t)(hc:dN (aY h o) s t μ ν)(hst:a7 P ρ h o s μ=some (v,s',μ')):Eff P ρ h o (aY h o) s t μ ν v s' μ':=by
 have e1:=ha x (by simp[ho,Op.operands])
 have e2:=ha y (by simp[ho,Op.operands])
 have l1:=aQ h.take s
 have l2:=aQ h.take t
 have hs1:a7 P ρ h o s μ=it P h ty (evA h s.fr x) (evA h s.fr y) (ab h.take s) μ fun v s μ=>some (v,s,μ):=by simp only[a7,ck,ho]
 have ht1:a7 P ρ h o t ν=it P h ty (evA h s.fr x) (evA h s.fr y) (ab h.take t) ν fun v s μ=>some (v,s,μ):=by simp only[a7,ck,ho,e1,e2]
 rw[hs1]at hst
 unfold Eff
 rw[ht1]
 clear hs1 ht1 e1 e2 ha
 simp only[aY,ho]at hc ⊢
 unfold it at hst ⊢
 generalize evA h s.fr x=q at hst ⊢
 generalize evA h s.fr y=u at hst ⊢
 cases hou:h.outer with
 |false=>
  simp only[hou,dN]at hc hst ⊢
  cases q with
  |loc i off=>
   dsimp only at hst ⊢
   rw[lY]at hst ⊢
   obtain⟨w,h1,h2⟩:=ac.1 hst
   simp only[Option.some.injEq,Prod.mk.injEq]at h2
   obtain⟨rfl,rfl,rfl⟩:=h2
   refine⟨_,rfl,rfl,ac.2 ⟨w,?_,?_⟩⟩
   ·rw[l2.1,hc,←l1.1];exact h1
   ·rw[l2.1,hc,←l1.1]
  |cv c=>cases hst
  |osl _=>cases hst
  |lsl _ _ _=>cases hst
  |lclo _ _=>cases hst
  |mloc _=>cases hst
  |tloc _ _ _=>cases hst
  |ost _=>cases hst
  |stl _=>cases hst
  |ltup _=>cases hst
 |true=>
  simp only[hou,dN]at hc hst ⊢
  obtain⟨rfl,hpu⟩:=hc
  cases q with
  |cv c=>
   dsimp only at hst ⊢
   obtain⟨q,h1,h2⟩:=ac.1 hst
   obtain⟨h3,h4⟩:=aF.1 h2
   obtain⟨w,h5,h6⟩:=ac.1 h4
   simp only[Option.some.injEq,Prod.mk.injEq]at h6
   obtain⟨rfl,rfl,rfl⟩:=h6
   exact⟨rfl,ac.2 ⟨q,h1,aF.2 ⟨h3,ac.2 ⟨w,h5,rfl⟩⟩⟩⟩
  |loc i off=>cases hst
  |osl _=>cases hst
  |lsl _ _ _=>cases hst
  |lclo _ _=>cases hst
  |mloc _=>cases hst
  |tloc _ _ _=>cases hst
  |ost _=>cases hst
  |stl _=>cases hst
  |ltup _=>cases hst
theorem Oq {ty:TypeId}(ho:o.op= .alloc ty)(hc:dN (aY h o) s t μ ν)(hst:a7 P ρ h o s μ=some (v,s',μ')):Eff P ρ h o (aY h o) s t μ ν v s' μ':=by
 have l1:=aQ h.take s
 have l2:=aQ h.take t
 simp only[aY,ho,dN]at hc
 simp only[aY,ho,Eff]
 simp only[a7,ck,ho]at hst ⊢
 obtain⟨w,h1,h2⟩:=ac.1 hst
 simp only[Option.some.injEq,Prod.mk.injEq]at h2
 obtain⟨rfl,rfl,rfl⟩:=h2
 refine⟨_,by rw[l1.1],rfl,ac.2 ⟨w,h1,?_⟩⟩
 rw[l1.1,l2.1,hc]
theorem TK {ty:TypeId}{x:Operand}(ho:o.op= .box ty x)(hr:h.cell=false)(ha:Ag h o s t)(hc:dN (aY h o) s t μ ν)(hst:a7 P ρ h o s μ=some (v,s',μ')):Eff P ρ h o (aY h o) s t μ ν v s' μ':=by
 have e:=ha x (by simp[ho,Op.operands])
 have l1:=aQ h.take s
 have l2:=aQ h.take t
 simp only[aY,ho,hr,dN]at hc
 simp only[aY,ho,hr,Eff]
 simp only[a7,ck,ho,hr,kH,e]at hst ⊢
 obtain⟨w,h1,h2⟩:=ac.1 hst
 simp only[Option.some.injEq,Prod.mk.injEq]at h2
 obtain⟨rfl,rfl,rfl⟩:=h2
 refine⟨_,by rw[l1.1],rfl,ac.2 ⟨w,h1,?_⟩⟩
 rw[l1.1,l2.1,hc]
theorem Ai {ty:TypeId}{len:Nat}{parts:Array (Nat×Operand)}(ho:o.op= .buildSlice ty len parts)(hr:h.arr=true)(ha:Ag h o s t)(hc:dN (aY h o) s t μ ν)(hst:a7 P ρ h o s μ=some (v,s',μ')):Eff P ρ h o (aY h o) s t μ ν v s' μ':=by
 have e: ∀b sz,mR b sz (evA h t.fr) 0 parts.toList=mR b sz (evA h s.fr) 0 parts.toList:=fun b sz=>rD fun q hq=>ha q.2 (by simp only[ho,Op.operands];simp;exact⟨q.1,by simpa using hq⟩)
 have l1:=aQ h.take s
 have l2:=aQ h.take t
 simp only[aY,ho,hr,dN]at hc
 simp only[aY,ho,hr,Eff]
 simp only[a7,ck,ho,nq,e,hr]at hst ⊢
 split at hst<;>try(cases hst;done)
 obtain⟨sz,h1,hst⟩:=ac.1 hst
 obtain⟨h2,hst⟩:=aF.1 hst
 obtain⟨z,h3,hst⟩:=ac.1 hst
 obtain⟨xs,h5,hst⟩:=ac.1 hst
 obtain⟨h6,hst⟩:=aF.1 hst
 obtain⟨h7,hst⟩:=aF.1 hst
 simp only[Option.some.injEq,Prod.mk.injEq]at hst
 obtain⟨rfl,rfl,rfl⟩:=hst
 refine⟨_,by rw[l1.1],rfl,ac.2 ⟨sz,h1,aF.2 ⟨h2,ac.2 ⟨z,h3,ac.2 ⟨xs,h5,aF.2 ⟨h6,aF.2 ⟨h7,?_⟩⟩⟩⟩⟩⟩⟩
 rw[l1.1,l2.1,hc]
theorem Ae {β:Type}{src dst:TypeId}{q:LV}{f:LV→S→Mu→Option β}(hr:h.arr=false)(hq: ∀id off len,q≠ .lsl id off len):
  c8 P h src dst q t ν f=c8 P h src dst q s μ fun v _ _=>f v t ν:=by
 unfold c8
 simp only[hr]
theorem F5 {src dst:TypeId}{x:Operand}(ho:o.op= .convert src dst x)(hr:h.arr=false)(ha:Ag h o s t)(hc:dN (aY h o) s t μ ν)(hst:a7 P ρ h o s μ=some (v,s',μ')):Eff P ρ h o (aY h o) s t μ ν v s' μ':=by
 have e:=ha x (by simp[ho,Op.operands])
 have l1:=aQ h.take s
 have l2:=aQ h.take t
 have hs1:a7 P ρ h o s μ=c8 P h src dst (evA h s.fr x) (ab h.take s) μ fun v s μ=>some (v,s,μ):=by simp only[a7,ck,ho]
 have ht1:a7 P ρ h o t ν=c8 P h src dst (evA h s.fr x) (ab h.take t) ν fun v s μ=>some (v,s,μ):=by simp only[a7,ck,ho,e]
 rw[hs1]at hst
 unfold Eff
 rw[ht1]
 clear hs1 ht1 e ha
 simp only[aY,ho,hr,dN]at hc ⊢
 generalize evA h s.fr x=q at hst ⊢
 by_cases hq: ∀id off len,q≠ .lsl id off len
 ·have key: ∀(t:S) (ν:Mu),(c8 P h src dst q t ν fun v s μ=>some (v,s,μ))=opt (c8 P h src dst q (ab h.take s) μ fun v s μ=>some (v,s,μ)) fun a=>some (a.1,t,ν):=by
   intro t ν
   rw[uv]
   exact Ae hr hq
  have h1:=key (ab h.take s) μ
  rw[hst,a6]at h1
  simp only[Option.some.injEq,Prod.mk.injEq,true_and]at h1
  refine⟨h1.1,h1.2,?_⟩
  rw[key,hst]
  rfl
 ·obtain⟨id,off,len,rfl⟩: ∃id off len,q= .lsl id off len:=by
   cases q<;>first|exact⟨_,_,_,rfl⟩|(exfalso;apply hq;intro _ _ _ hh;cases hh)
  unfold c8 at hst ⊢
  simp only[hr]at hst ⊢
  split at hst
  ·split at hst<;>cases hst
  ·rename_i hu
   split at hst
   ·cases hst
   ·rename_i e' hu'
    split at hst<;>try(cases hst;done)
    rename_i hue
    split at hst<;>try(cases hst;done)
    rename_i sz cs hob
    obtain⟨h1,hst⟩:=aF.1 hst
    obtain⟨l,h2,hst⟩:=ac.1 hst
    simp only[Option.some.injEq,Prod.mk.injEq]at hst
    obtain⟨rfl,rfl,rfl⟩:=hst
    rw[l1.1]at hob
    have hob2:aG (ab h.take t).lam id= .arr sz cs:=by
     have hc2:=hc id (by rw[hob];trivial)
     rw[hob]at hc2
     rw[l2.1]
     generalize aG t.lam id=q at hc2 ⊢
     cases hc2
     rfl
    refine⟨rfl,rfl,?_⟩
    simp only[hob2]
    exact aF.2 ⟨h1,ac.2 ⟨l,h2,rfl⟩⟩
   ·cases hst
  ·split at hst
   ·split at hst<;>cases hst
   ·cases hst
  ·cases hst
theorem QX {c:Call}{fx:Operand}(ho:o.op= .call c)(hc0:c.callee= .value fx)(hp:h.push=false)(ha:Ag h o s t)(hc:dN (aY h o) s t μ ν)(hst:a7 P ρ h o s μ=some (v,s',μ')):Eff P ρ h o (aY h o) s t μ ν v s' μ':=by
 have e1:=ha fx (by simp[ho,Op.operands,Call.operands,hc0])
 have em:c.args.toList.map (evA h t.fr)=c.args.toList.map (evA h s.fr):=List.map_congr_left fun x hx=>ha x (by simp[ho,Op.operands,Call.operands,hc0];right;simpa using hx)
 have l1:=aQ h.take s
 have l2:=aQ h.take t
 simp only[aY,ho,hc0,hp,dN]at hc
 simp only[aY,ho,hc0,hp,Eff]
 obtain⟨rfl,hpu⟩:=hc
 have key: ∀(f:FuncId) (args:List LV),(d6 P ρ h o.type f args (ab h.take s) ν (fun v s μ=>some (v,s,μ)) fun _ _ _=>none)=some (v,s',μ')→
   s'=ab h.take s∧(d6 P ρ h o.type f args (ab h.take t) ν (fun v s μ=>some (v,s,μ)) fun _ _ _=>none)=some (v,ab h.take t,μ'):=by
  intro f args hk
  unfold d6 at hk ⊢
  simp only[hp]at hk ⊢
  obtain⟨h1,hk⟩:=aF.1 hk
  have h1':(!(ab h.take t).pushed&&ge args)=true:=by rw[l2.2,hpu,←l1.2];exact h1
  unfold callK at hk
  obtain⟨out,h2,hk⟩:=ac.1 hk
  cases out with
  |panic pv m=>cases hk
  |ret rv m=>
   dsimp only at hk
   obtain⟨y,h3,_⟩:=fF hk
   simp only[Option.some.injEq,Prod.mk.injEq]at h3
   refine⟨h3.2.1.symm,aF.2 ⟨h1',?_⟩⟩
   unfold callK
   refine ac.2 ⟨.ret rv m,h2,?_⟩
   dsimp only
   have:(cW P h.own o.type rv fun v=>some (v,ab h.take t,m))=opt (cW P h.own o.type rv fun v=>some (v,ab h.take s,m)) fun q=>some (q.1,ab h.take t,q.2.2):=by
    rw[ib]
    rfl
   rw[this,hk]
   rfl
 simp only[a7,ck,ho,hc0,e1,em]at hst ⊢
 obtain⟨h1,hst⟩:=aF.1 hst
 revert hst
 generalize evA h s.fr fx=q
 intro hst
 cases q with
 |cv cc=>
  cases cc with
  |clo f caps=>
   obtain⟨k1,k2⟩:=key _ _ hst
   exact⟨k1,aF.2 ⟨h1,k2⟩⟩
  |_=>cases hst
 |lclo f caps=>
  obtain⟨k1,k2⟩:=key _ _ hst
  exact⟨k1,aF.2 ⟨h1,k2⟩⟩
 |_=>cases hst
end
end Go.Abs
set_option linter.unusedVariables false
set_option linter.unusedSimpArgs false
namespace Go.Abs
open Go
section
variable {P:Program}{ρ:Rho}{h:OpHint}{o:Oper}{s t s':S}{μ ν μ':Mu}{v:LV}
theorem Qi (ha:Ag h o s t)(hc:dN (aY h o) s t μ ν)(hk:aY h o≠ .all)(hst:a7 P ρ h o s μ=some (v,s',μ')):Eff P ρ h o (aY h o) s t μ ν v s' μ':=by
 have pl:aY h o= .plain→(∀t ν,Ag h o s t→bX P ρ h o s t μ ν)→Eff P ρ h o (aY h o) s t μ ν v s' μ':=fun e hp=>by rw[e];exact Ot hp ha hst
 cases ho:o.op with
 |move x=>exact pl (by simp[aY,ho]) fun t ν ha=>Kd (.inl ho) ha
 |assign x=>exact pl (by simp[aY,ho]) fun t ν ha=>Kd (.inr ho) ha
 |pick c x y=>exact pl (by simp[aY,ho]) fun t ν ha=>UA ho ha
 |alloc ty=>exact Oq ho hc hst
 |box ty x=>
  cases hr:h.cell with
  |false=>exact TK ho hr ha hc hst
  |true=>exact pl (by simp[aY,ho,hr]) fun t ν ha=>Uz ho hr ha
 |build ty ps=>exact pl (by simp[aY,ho]) fun t ν ha=>Sa ho ha
 |buildSlice ty len ps=>
  cases hr:h.arr with
  |true=>exact Ai ho hr ha hc hst
  |false=>exact pl (by simp[aY,ho,hr]) fun t ν ha=>BV ho hr ha
 |load ty x=>exact QY ho ha hc hst
 |store ty x y=>exact Ou ho ha hc hst
 |nilCheck x=>exact pl (by simp[aY,ho]) fun t ν ha=>HW ho ha
 |binOp op ty x y ty'=>exact pl (by simp[aY,ho]) fun t ν ha=>R9 ho ha
 |unOp op ty x=>exact pl (by simp[aY,ho]) fun t ν ha=>UB ho ha
 |convert src dst x=>
  cases hr:h.arr with
  |true=>exact absurd (by simp[aY,ho,hr]) hk
  |false=>exact F5 ho hr ha hc hst
 |makeInterface ty x=>exact pl (by simp[aY,ho]) fun t ν ha=>xE ho ha
 |makeFunc fn first captured=>exact pl (by simp[aY,ho]) fun t ν ha=>HV ho ha
 |slice ty x lo hi mx=>exact pl (by simp[aY,ho]) fun t ν ha=>Se ho ha
 |fieldAddr ty x f=>exact pl (by simp[aY,ho]) fun t ν ha=>Fj ho ha
 |field ty x f=>exact pl (by simp[aY,ho]) fun t ν ha=>Sb ho ha
 |indexAddr ty x y=>exact pl (by simp[aY,ho]) fun t ν ha=>Fk ho ha
 |index ty x y=>exact pl (by simp[aY,ho]) fun t ν ha=>Sd ho ha
 |extract x i=>exact pl (by simp[aY,ho]) fun t ν ha=>Mr ho ha
 |panic x=>exact absurd (by simp[aY,ho]) hk
 |typeAssert x xt ty ok=>exact absurd (by simp[aY,ho]) hk
 |makeMap ty x=>exact absurd (by simp[aY,ho]) hk
 |makeSlice ty x y=>exact absurd (by simp[aY,ho]) hk
 |insert ty m x y=>exact absurd (by simp[aY,ho]) hk
 |mapUpdate ty m x y=>exact absurd (by simp[aY,ho]) hk
 |lookup ty m x ok=>exact absurd (by simp[aY,ho]) hk
 |call c=>
  cases hc0:c.callee with
  |builtin b=>
   by_cases hb:b= .copy
   ·subst hb
    exact absurd (by simp[aY,ho,hc0]) hk
   ·exact pl (by simp only[aY,ho,hc0]) fun t ν ha=>Mq ho hc0 hb ha
  |value fx=>
   cases hp:h.push with
   |true=>exact absurd (by simp[aY,ho,hc0,hp]) hk
   |false=>exact QX ho hc0 hp ha hc hst
  |invoke r m=>simp[a7,ck,ho,hc0]at hst
 |_=>simp[a7,ck,ho]at hst
end
end Go.Abs
set_option linter.unusedVariables false
set_option linter.unusedSimpArgs false
namespace Go.Abs
open Go
def eK (P:Program)(ρ:Rho)(H:Hints)(rg:Nat)(ops:Array Oper)(i:Nat)(s:S)(μ:Mu):Option (S×Mu):=
  match ops[i]? with
  |none=>none
  |some o=>match o.guard with
    |none=>opt (jM P ρ (H.op rg i) o s μ) fun q=>some (q.2.1.put o.dst q.1,q.2.2)
    |some g=>opt (na ops g.1) fun d=>opt (ed (s.fr d)) fun q=>match q == some g.2 with
      |true=>opt (jM P ρ (H.op rg i) o s μ) fun q=>some (q.2.1.put o.dst q.1,q.2.2)
      |false=>some (s.put o.dst (.cv (.v Go.undef)),μ)
section
variable {P:Program}{ρ:Rho}{H:Hints}{rg:Nat}{ops:Array Oper}{α:Type}
theorem xA {h:OpHint}(hf:jO h=true){o:Oper}{s:S}{μ:Mu}{f:LV→S→Mu→Option α}:opK P ρ h o s μ f (fun _ _ _=>none)=opt (jM P ρ h o s μ) fun q=>f q.1 q.2.1 q.2.2:=by
  unfold jO at hf
  split at hf
  · rename_i h1 h2
    unfold opK
    rw[h1,h2]
    exact PT
  · cases hf
theorem PV {i:Nat}{rest:List Nat}(hf:jO (H.op rg i)=true){s:S}{μ:Mu}{k:S→Mu→Option α}:
    fg P ρ H rg ops (i::rest) s μ k (fun _ _ _=>none)=opt (eK P ρ H rg ops i s μ) fun q=>fg P ρ H rg ops rest q.1 q.2 k fun _ _ _=>none:=by
  simp only[fg,eK]
  cases ops[i]? with
  |none=>rfl
  |some o=>
    dsimp only
    cases o.guard with
    |none=>dsimp only;rw[xA hf,aI];rfl
    |some g=>
      dsimp only
      simp only[aI]
      congr;funext d
      cases hq:ed (s.fr d)with
      |none=>rfl
      |some q=>
       cases q with
       |none=>rfl
       |some b=>
        simp only[a6]
        have hb:=mQ hq
        have hd:=fW hb
        obtain⟨j,want⟩:=g
        cases b<;>cases want<;>simp only[cond_true,cond_false,S.set_self s d _ hd,xA hf,aI,a6,beq_self_eq_true]<;>rfl
def gJ (P:Program)(ρ:Rho)(H:Hints)(rg:Nat)(ops:Array Oper)(i:Nat)(o:Oper)(s:S)(μ:Mu):Option (LV×S×Mu):=
  match o.guard with
  |none=>jM P ρ (H.op rg i) o s μ
  |some g=>opt (na ops g.1) fun d=>opt (ed (s.fr d)) fun q=>match q == some g.2 with
    |true=>jM P ρ (H.op rg i) o s μ
    |false=>some (.cv (.v Go.undef),s,μ)
theorem nh {i:Nat}{o:Oper}(ho:ops[i]? =some o){s:S}{μ:Mu}:eK P ρ H rg ops i s μ=opt (gJ P ρ H rg ops i o s μ) fun q=>some (q.2.1.put o.dst q.1,q.2.2):=by
  simp only[eK,gJ,ho]
  cases o.guard with
  |none=>rfl
  |some g=>
    dsimp only
    simp only[aI]
    congr;funext d;congr;funext b
    cases b == some g.2<;>rfl
def qr (P:Program)(ρ:Rho)(H:Hints)(rg:Nat)(ops:Array Oper)(i:Nat)(o:Oper)(T:List Nat)(k:Kind)(s t:S)(μ ν:Mu)(v:LV)(s':S)(μ':Mu):Prop:=
  match k with
  | .plain=>s'=ab T s∧μ'=μ∧gJ P ρ H rg ops i o t ν=some (v,ab T t,ν)
  | .rd=>s'=ab T s∧μ'=μ∧gJ P ρ H rg ops i o t ν=some (v,ab T t,ν)
  | .tk=> ∃lam',s'={ab T s with lam:=lam'}∧μ'=μ∧(∀i,SameOb (aG s.lam i) (aG lam' i))∧t.lam=s.lam∧gJ P ρ H rg ops i o t ν=some (v,{ab T t with lam:=lam'},ν)
  | .wr=> ∃lam',s'={ab T s with lam:=lam'}∧μ'=μ∧gJ P ρ H rg ops i o t ν=some (v,{ab T t with lam:=lam'},ν)
  | .ap=> ∃ob,s'={ab T s with lam:=s.lam++[ob]}∧μ'=μ∧gJ P ρ H rg ops i o t ν=some (v,{ab T t with lam:=t.lam++[ob]},ν)
  | .look=>s'=ab T s∧μ'=μ∧gJ P ρ H rg ops i o t ν=some (v,ab T t,ν)
  | .tku=>s'=ab T s∧(∀lev i,SameOb (aU μ lev i) (aU μ' lev i))∧ν=μ∧gJ P ρ H rg ops i o t ν=some (v,ab T t,μ')
  | .ou=>s'=ab T s∧gJ P ρ H rg ops i o t ν=some (v,ab T t,μ')
  | .all=>False
def AgR (hh:OpHint)(ops:Array Oper)(o:Oper)(s t:S):Prop:= ∀u,u∈o.looksAt ops→t.fr u=s.fr u∨(iA hh.take u=false∧strip (t.fr u)=strip (s.fr u))
theorem p9 (x:LV):ed (strip x)=ed x:=by cases x<;>rfl
theorem AgR.ag {hh:OpHint}{o:Oper}{s t:S}(h:AgR hh ops o s t):Ag hh o s t:=by
  intro x hx
  cases x with
  |tmp u=>
    have hu:u∈o.looksAt ops:=by
      unfold Oper.looksAt
      refine List.mem_append_left _ (List.mem_filterMap.2 ⟨.tmp u,hx,rfl⟩)
    simp only[evA]
    rcases h u hu with e|⟨e1,e2⟩
    · rw[e]
    · rw[e1];exact e2
  |const c=>rfl
  |global g=>rfl
  |func f=>rfl
theorem AgR.guard {hh:OpHint}{o:Oper}{s t:S}(h:AgR hh ops o s t){g:Nat×Bool}(hg:o.guard=some g){d:Nat}(hd:na ops g.1=some d):ed (t.fr d)=ed (s.fr d):=by
  suffices hs:d∈o.looksAt ops by
    rcases h d hs with e|⟨_,e⟩
    · rw[e]
    · rw[←p9,e,p9]
  unfold Oper.looksAt
  refine List.mem_append_right _ ?_
  rw[hg]
  obtain⟨j,b⟩:=g
  simp only[na]at hd
  cases hj:ops[j]? with
  |none=>rw[hj]at hd;cases hd
  |some oj=>
    rw[hj]at hd
    have hd:oj.dst=some d:=hd
    simp[hj,hd]
theorem Dh {i:Nat}{o:Oper}{s t s':S}{μ ν μ':Mu}{v:LV}(ha:AgR (H.op rg i) ops o s t)(hk:iD (H.op rg i) o≠ .all)(hst:gJ P ρ H rg ops i o s μ=some (v,s',μ')):
    ∃T k,(T=(H.op rg i).take∨T=[])∧(k=iD (H.op rg i) o∨k= .plain)∧ ∀t ν,AgR (H.op rg i) ops o s t→dN (iD (H.op rg i) o) s t μ ν→qr P ρ H rg ops i o T k s t μ ν v s' μ':=by
  have hhd:(H.op rg i).hide=none:=by
    cases hh:(H.op rg i).hide with
    |none=>rfl
    |some t=>exact absurd (by simp only[iD,hh]) hk
  have hkk:iD (H.op rg i) o=aY (H.op rg i) o:=by simp only[iD,hhd]
  have hsh: ∀s μ,jM P ρ (H.op rg i) o s μ=a7 P ρ (H.op rg i) o s μ:=fun s μ=>by simp only[jM,hhd]
  rw[hkk]at hk ⊢
  have run:gJ P ρ H rg ops i o s μ=a7 P ρ (H.op rg i) o s μ→(∀t ν,AgR (H.op rg i) ops o s t→gJ P ρ H rg ops i o t ν=a7 P ρ (H.op rg i) o t ν)→
      ∃T k,(T=(H.op rg i).take∨T=[])∧(k=aY (H.op rg i) o∨k= .plain)∧ ∀t ν,AgR (H.op rg i) ops o s t→dN (aY (H.op rg i) o) s t μ ν→qr P ρ H rg ops i o T k s t μ ν v s' μ':=by
    intro e1 e2
    rw[e1]at hst
    refine⟨_,_,.inl rfl,.inl rfl,fun t ν ha hc=> ?_⟩
    have:=Qi ha.ag hc hk hst
    unfold Eff at this
    unfold qr
    rw[e2 t ν ha]
    revert this hk
    cases aY (H.op rg i) o<;>intro hk this<;>first|exact this|exact absurd rfl hk
  cases hg:o.guard with
  |none=>exact run (by simp only[gJ,hg,hsh]) fun t ν _=>by simp only[gJ,hg,hsh]
  |some g=>
    have hst':=hst
    simp only[gJ,hg]at hst'
    obtain⟨d,hd,hst'⟩:=ac.1 hst'
    obtain⟨b,hb,hst'⟩:=ac.1 hst'
    cases hbg:b == some g.2 with
    |true=>
      refine run (by simp only[gJ,hg,hd,hb,a6,hbg,hsh]) fun t ν ha=> ?_
      have:=ha.guard hg hd
      simp only[gJ,hg,hd,this,hb,a6,hbg,hsh]
    |false=>
      rw[hbg]at hst'
      simp only[Option.some.injEq,Prod.mk.injEq]at hst'
      obtain⟨rfl,rfl,rfl⟩:=hst'
      refine⟨[],.plain,.inr rfl,.inr rfl,fun t ν ha hc=>⟨rfl,rfl,?_⟩⟩
      have:=ha.guard hg hd
      simp only[gJ,hg,hd,this,hb,a6,hbg,ab]
def xD (u:Nat):List Nat→LV→LV
  |[],x=>x
  |t::r,x=>xD u r (if u=t then strip x else x)
def phi (T:List Nat)(dst:Option Nat)(v:LV)(u:Nat)(x:LV):LV:=if dst=some u then v else xD u T x
theorem g7: ∀(T:List Nat) (s:S) (u:Nat),(ab T s).fr u=xD u T (s.fr u)
  |[],s,u=>rfl
  |t::r,s,u=>by
    simp only[ab,xD]
    rw[g7 r]
    congr 1
    by_cases hu:u=t
    · subst hu;simp only[S.set,fH,if_true]
    · simp only[S.set,eD _ _ hu,if_neg hu]
theorem fu {s':S}{T:List Nat}{s:S}{dst:Option Nat}{v:LV}(h:s'.fr=(ab T s).fr)(u:Nat):(s'.put dst v).fr u=phi T dst v u (s.fr u):=by
  unfold phi
  cases dst with
  |none=>simp only[S.put,h,g7,reduceCtorEq,if_false]
  |some d=>
    by_cases hu:u=d
    · subst hu;simp only[S.put,S.set,fH,if_true]
    · have: ¬(some d=some u):=fun e=>hu (Option.some.inj e).symm
      simp only[S.put,S.set,eD _ _ hu,h,g7,if_neg this]
theorem zm {u:Nat}: ∀{T:List Nat} {x:LV},u ∉ T→xD u T x=x
  |[],x,_=>rfl
  |t::r,x,h=>by
    simp only[List.mem_cons,not_or]at h
    simp only[xD,if_neg h.1]
    exact zm h.2
theorem dK {T:List Nat}{dst:Option Nat}{v:LV}{u:Nat}{x:LV}(h1:dst≠some u)(h2:u ∉ T):phi T dst v u x=x:=by
  unfold phi
  rw[if_neg h1,zm h2]
theorem gU (s:S)(dst:Option Nat)(v:LV):(s.put dst v).lam=s.lam∧(s.put dst v).pushed=s.pushed:=by
  cases dst<;>exact⟨rfl,rfl⟩
end
end Go.Abs
set_option linter.unusedVariables false
set_option linter.unusedSimpArgs false
namespace Go.Abs
open Go
section
variable {P:Program}{ρ:Rho}{H:Hints}{rg:Nat}{ops:Array Oper}
def ny (k:Kind)(s s1:S)(μ μ1:Mu):Prop:=
 s1.pushed=s.pushed∧match k with
 | .plain=>s1.lam=s.lam∧μ1=μ
 | .rd=>s1.lam=s.lam∧μ1=μ
 | .tk=>μ1=μ∧ ∀i,SameOb (aG s.lam i) (aG s1.lam i)
 | .wr=>μ1=μ
 | .ap=>(∃ob,s1.lam=s.lam++[ob])∧μ1=μ
 | .look=>s1.lam=s.lam∧μ1=μ
 | .tku=>s1.lam=s.lam∧ ∀lev i,SameOb (aU μ lev i) (aU μ1 lev i)
 | .ou=>s1.lam=s.lam
 | .all=>False
theorem qr.left {i:Nat}{o:Oper}{T:List Nat}{k:Kind}{s t s':S}{μ ν μ':Mu}{v:LV}(h:qr P ρ H rg ops i o T k s t μ ν v s' μ'):ny k s s' μ μ'∧s'.fr=(ab T s).fr:=by
 have l:=aQ T s
 unfold qr at h
 unfold ny
 cases k with
 |plain=>obtain⟨rfl,rfl,_⟩:=h;exact⟨⟨l.2,l.1,rfl⟩,rfl⟩
 |rd=>obtain⟨rfl,rfl,_⟩:=h;exact⟨⟨l.2,l.1,rfl⟩,rfl⟩
 |tk=>obtain⟨lam',rfl,rfl,hs,_⟩:=h;exact⟨⟨l.2,rfl,hs⟩,rfl⟩
 |wr=>obtain⟨lam',rfl,rfl,_⟩:=h;exact⟨⟨l.2,rfl⟩,rfl⟩
 |ap=>obtain⟨ob,rfl,rfl,_⟩:=h;exact⟨⟨l.2,⟨ob,rfl⟩,rfl⟩,rfl⟩
 |look=>obtain⟨rfl,rfl,_⟩:=h;exact⟨⟨l.2,l.1,rfl⟩,rfl⟩
 |tku=>obtain⟨rfl,hs,_⟩:=h;exact⟨⟨l.2,l.1,hs⟩,rfl⟩
 |ou=>obtain⟨rfl,_⟩:=h;exact⟨⟨l.2,l.1⟩,rfl⟩
 |all=>exact h.elim
theorem NL {kj ki:Kind}(hm:eQ kj ki=true∨kj= .plain)(hki:ki≠ .all){s s1:S}{μ μ1:Mu}(h:ny kj s s1 μ μ1):dN ki s1 s μ1 μ:=by
 unfold ny at h
 obtain⟨hp,h⟩:=h
 cases kj<;>cases ki<;>simp_all [eQ,dN]
 all_goals
  intro i _
  first
  |exact .refl _
  |(rw[h.1];exact .refl _)
  |exact(h.2 i).symm
  |(intro _;exact .refl _)
  |(intro _;exact(h.2 _ _).symm)
theorem QT {kj ki:Kind}(hm:eQ kj ki=true∨ki= .plain)(hkj:kj≠ .all){s t1:S}{μ ν1:Mu}(h:ny ki s t1 μ ν1):dN kj s t1 μ ν1:=by
 unfold ny at h
 obtain⟨hp,h⟩:=h
 cases kj<;>cases ki<;>simp_all [eQ,dN]
 all_goals
  intro i hi
  first
  |exact .refl _
  |(rw[h.1];exact .refl _)
  |exact h.2 i
  |(intro _;exact .refl _)
  |exact h.2 _ _
  |(intro _;exact h.2 _ _)
  |(obtain⟨⟨ob,h1⟩,h2⟩:=h;rw[h1,iT (ia hi)];exact .refl _)
def Mem (k:Kind)(a b:Lam)(μ ν:Mu)(a' b':Lam)(μ' ν':Mu):Prop:=
 match k with
 | .plain=>a'=a∧b'=b∧μ'=μ∧ν'=ν
 | .rd=>a'=a∧b'=b∧μ'=μ∧ν'=ν
 | .tk=>b'=a'∧μ'=μ∧ν'=ν
 | .wr=>b'=a'∧μ'=μ∧ν'=ν
 | .ap=>(∃ob,a'=a++[ob]∧b'=b++[ob])∧μ'=μ∧ν'=ν
 | .look=>a'=a∧b'=b∧μ'=μ∧ν'=ν
 | .tku=>a'=a∧b'=b∧ν'=μ'
 | .ou=>a'=a∧b'=b∧ν'=μ'
 | .all=>False
theorem qr.out {i:Nat}{o:Oper}{T:List Nat}{k:Kind}{s t s':S}{μ ν μ':Mu}{v:LV}(h:qr P ρ H rg ops i o T k s t μ ν v s' μ'):
  ∃X ν',gJ P ρ H rg ops i o t ν=some (v,X,ν')∧X.fr=(ab T t).fr∧X.pushed=t.pushed∧Mem k s.lam t.lam μ ν s'.lam X.lam μ' ν'∧ny k t X ν ν':=by
 have l:=aQ T s
 have l2:=aQ T t
 unfold qr at h
 cases k with
 |plain=>obtain⟨rfl,rfl,h⟩:=h;exact⟨_,_,h,rfl,l2.2,⟨l.1,l2.1,rfl,rfl⟩,l2.2,l2.1,rfl⟩
 |rd=>obtain⟨rfl,rfl,h⟩:=h;exact⟨_,_,h,rfl,l2.2,⟨l.1,l2.1,rfl,rfl⟩,l2.2,l2.1,rfl⟩
 |tk=>obtain⟨lam',rfl,rfl,hs,ht,h⟩:=h;exact⟨_,_,h,rfl,l2.2,⟨rfl,rfl,rfl⟩,l2.2,rfl,by rw[ht];exact hs⟩
 |wr=>obtain⟨lam',rfl,rfl,h⟩:=h;exact⟨_,_,h,rfl,l2.2,⟨rfl,rfl,rfl⟩,l2.2,rfl⟩
 |ap=>obtain⟨ob,rfl,rfl,h⟩:=h;exact⟨_,_,h,rfl,l2.2,⟨⟨ob,rfl,rfl⟩,rfl,rfl⟩,l2.2,⟨ob,rfl⟩,rfl⟩
 |look=>obtain⟨rfl,rfl,h⟩:=h;exact⟨_,_,h,rfl,l2.2,⟨l.1,l2.1,rfl,rfl⟩,l2.2,l2.1,rfl⟩
 |tku=>obtain⟨rfl,hs,rfl,h⟩:=h;exact⟨_,_,h,rfl,l2.2,⟨l.1,l2.1,rfl⟩,l2.2,l2.1,hs⟩
 |ou=>obtain⟨rfl,h⟩:=h;exact⟨_,_,h,rfl,l2.2,⟨l.1,l2.1,rfl⟩,l2.2,l2.1⟩
 |all=>exact h.elim
theorem hZ: ∀{a b:List Nat},pi a b=true→ ∀x,x∈a→x ∉ b
 |[],b,_,x,hx=>by simp at hx
 |y::r,b,h,x,hx=>by
  simp only[pi]at h
  split at h
  ·cases h
  ·rename_i hm
   rcases List.mem_cons.1 hx with rfl|hx
   ·intro hb;rw[fB.2 hb]at hm;cases hm
   ·exact hZ h x hx
theorem lX {h:OpHint}{o:Oper}{u:Nat}:u∈dr h o↔o.dst=some u∨u∈h.take:=by
 unfold dr
 cases o.dst with
 |none=>simp
 |some d=>simp[eq_comm]
theorem fe {h:OpHint}{o:Oper}{u:Nat}(hu:u ∉ dr h o){T:List Nat}(hT:T=h.take∨T=[]):o.dst≠some u∧u ∉ T:=by
 rw[lX,not_or]at hu
 refine⟨hu.1,?_⟩
 rcases hT with rfl|rfl
 ·exact hu.2
 ·simp
theorem FP {kj ki kj' ki':Kind}(h:eQ kj ki=true)(hj:kj'=kj∨kj'= .plain)(hi:ki'=ki∨ki'= .plain):eQ kj' ki'=true:=by
 rcases hj with e|e<;>rcases hi with e'|e'<;>rw[e,e']<;>cases kj<;>cases ki<;>simp_all [eQ]
theorem Rk {kj ki:Kind}{l l1 l2 t1 y:Lam}{μ μ1 μ2 ν1 ν2:Mu}(ha:eQ kj ki=true)(hb:Mem ki l1 l μ1 μ l2 t1 μ2 ν1)(hc:Mem kj l t1 μ ν1 l1 y μ1 ν2):y=l2∧ν2=μ2:=by
 cases kj<;>cases ki<;>simp only[eQ,Bool.false_eq_true]at ha<;>simp only[Mem]at hb hc
 all_goals first
  |(obtain⟨a1,a2,a3,a4⟩:=hb;obtain⟨b1,b2,b3,b4⟩:=hc;subst_vars;exact⟨rfl,rfl⟩)
  |(obtain⟨⟨ob,a1,a2⟩,a3,a4⟩:=hb;obtain⟨b1,b2,b3,b4⟩:=hc;subst_vars;exact⟨rfl,rfl⟩)
  |(obtain⟨a1,a2,a3⟩:=hb;obtain⟨b1,b2,b3,b4⟩:=hc;subst_vars;exact⟨rfl,rfl⟩)
  |(obtain⟨a1,a2,a3,a4⟩:=hb;obtain⟨b1,b2,b3⟩:=hc;subst_vars;exact⟨rfl,rfl⟩)
  |(obtain⟨⟨ob,a1,a2⟩,a3,a4⟩:=hb;obtain⟨⟨ob2,b1,b2⟩,b3,b4⟩:=hc;subst_vars;exact⟨rfl,rfl⟩)
  |(obtain⟨a1,a2,a3⟩:=hb;obtain⟨b1,b2,b3⟩:=hc;subst_vars;exact⟨rfl,rfl⟩)
  |(obtain⟨a1,a2,a3,a4⟩:=hb;obtain⟨⟨ob,b1,b2⟩,b3,b4⟩:=hc;subst_vars;exact⟨rfl,rfl⟩)
  |(obtain⟨a1,a2,a3⟩:=hb;obtain⟨⟨ob,b1,b2⟩,b3,b4⟩:=hc;subst_vars;exact⟨rfl,rfl⟩)
  |(obtain⟨⟨ob,a1,a2⟩,a3,a4⟩:=hb;obtain⟨b1,b2,b3⟩:=hc;subst_vars;exact⟨rfl,rfl⟩)
theorem uP {T:List Nat}{dst:Option Nat}{v:LV}{u:Nat}{x:LV}(h1:dst≠some u):strip (phi T dst v u x)=strip x:=by
 unfold phi
 rw[if_neg h1]
 induction T generalizing x with
 |nil=>rfl
 |cons t r ih=>
  simp only[xD]
  rw[ih]
  split
  ·exact wz x
  ·rfl
theorem FH {h:OpHint}{o:Oper}{t:Nat}(hx:vH h o t=true):o.guard=none∧(∃ty,o.op= .load ty (.tmp t))∧h.cell=true∧h.hide=none:=by
 unfold vH at hx
 split at hx
 ·rename_i ty u hg ho
  simp only[Bool.and_eq_true]at hx
  have e:=Nat.eq_of_beq_eq_true hx.1.1
  subst e
  refine⟨hg,⟨ty,ho⟩,hx.1.2,?_⟩
  cases hh:h.hide with
  |none=>rfl
  |some _=>rw[hh]at hx;simp at hx
 ·cases hx
theorem Ge {hx hy:OpHint}{x y:Oper}(h:yG hx x hy y=true): ∃t c fx,hy.hide=some t∧y.guard=none∧y.op= .call c∧c.callee= .value fx∧vH hx x t=true∧t ∉ dr hx x∧t ∉ dr hy y:=by
 unfold yG at h
 split at h
 ·rename_i t c h1 h2 h3
  split at h
  ·rename_i fx h4
   simp only[Bool.and_eq_true,Bool.not_eq_true']at h
   refine⟨t,c,fx,h1,h2,h3,h4,h.1.1,fun hm=> ?_,fun hm=> ?_⟩
   ·rw[fB.2 hm]at h;simp at h
   ·rw[fB.2 hm]at h;simp at h
  ·cases h
 ·cases h
theorem Ow {β:Type}{h:OpHint}{ty:TypeId}{f:FuncId}{args:List LV}{s:S}{μ:Mu}{g:Fr}{k:LV→S→Mu→Option β}{p:CV→S→Mu→Option β}:
  d6 P ρ h ty f args {s with fr:=g} μ k p=d6 P ρ h ty f args s μ (fun v s μ=>k v {s with fr:=g} μ) (fun v s μ=>p v {s with fr:=g} μ):=by
 unfold d6
 cases h.push<;>rfl
theorem jL {h:OpHint}{o:Oper}{c:Call}{fx:Operand}{s t:S}{μ:Mu}(ho:o.op= .call c)(hc0:c.callee= .value fx)(ha:Ag h o s t)(hl:t.lam=s.lam)(hpu:t.pushed=s.pushed):
  a7 P ρ h o t μ=opt (a7 P ρ h o s μ) fun q=>some (q.1,{q.2.1 with fr:=(ab h.take t).fr},q.2.2):=by
 have e1:=ha fx (by simp[ho,Op.operands,Call.operands,hc0])
 have em:c.args.toList.map (evA h t.fr)=c.args.toList.map (evA h s.fr):=List.map_congr_left fun x hx=>ha x (by simp[ho,Op.operands,Call.operands,hc0];right;simpa using hx)
 have l1:=aQ h.take s
 have l2:=aQ h.take t
 have est:ab h.take t={ab h.take s with fr:=(ab h.take t).fr}:=by
  have a1:(ab h.take t).lam=(ab h.take s).lam:=by rw[l2.1,l1.1,hl]
  have a2:(ab h.take t).pushed=(ab h.take s).pushed:=by rw[l2.2,l1.2,hpu]
  revert a1 a2
  generalize ab h.take t=A
  generalize ab h.take s=B
  intro a1 a2
  cases A;cases B
  simp only at a1 a2
  rw[a1,a2]
 have key: ∀(f:FuncId) (args:List LV),(d6 P ρ h o.type f args (ab h.take t) μ (fun v s μ=>some (v,s,μ)) fun _ _ _=>none)=
   opt (d6 P ρ h o.type f args (ab h.take s) μ (fun v s μ=>some (v,s,μ)) fun _ _ _=>none) fun q=>some (q.1,{q.2.1 with fr:=(ab h.take t).fr},q.2.2):=by
  intro f args
  conv=>lhs;rw[est]
  rw[Ow,rG]
  rfl
 simp only[a7,ck,ho,hc0,e1,em,bd]
 congr 1
 generalize evA h s.fr fx=q
 cases q with
 |cv cc=>
  cases cc with
  |clo f caps=>exact key _ _
  |_=>rfl
 |lclo f caps=>exact key _ _
 |_=>rfl
theorem yZ {μ:Mu}{lev i:Nat}{o:Ob}(h:DV μ lev i=true):aU (bj μ lev i o) lev i=o:=by
 unfold DV at h
 split at h
 ·rename_i l hl
  have h1:lev<μ.length:=(List.getElem?_eq_some_iff.1 hl).1
  have h2:i<l.length:=by simpa[Nat.blt_eq]using h
  simp only[bj,hl,aU,List.getElem?_set_self h1,List.getElem?_set_self h2]
 ·cases h
theorem Bi {μ:Mu}{lev i:Nat}{o o':Ob}:bj (bj μ lev i o) lev i o'=bj μ lev i o':=by
 cases hl:μ[lev]? with
 |none=>simp only[bj,hl]
 |some l=>
  have h1:lev<μ.length:=(List.getElem?_eq_some_iff.1 hl).1
  have e: ∀x,bj μ lev i x=μ.set lev (l.set i x):=fun x=>by simp only[bj,hl]
  rw[e,e]
  simp only[bj,List.getElem?_set_self h1,List.set_set]
theorem TO {μ:Mu}{lev i:Nat}(h:aK (aU μ lev i)):DV μ lev i=true:=by
 unfold aU at h
 unfold DV
 split at h
 ·rename_i l hl
  split at h
  ·rename_i x hx
   have:=(List.getElem?_eq_some_iff.1 hx).1
   simpa[hl,Nat.blt_eq]using this
  ·exact h.elim
 ·exact h.elim
theorem wo {ty:TypeId}{ob:Ob}{off:Nat}{q:LV×Ob}(h:gc P ty ob off=some q):aK ob∧aK q.2:=by
 unfold gc at h
 obtain⟨_,_,h⟩:=ac.1 h
 split at h<;>try(cases h;done)
 split at h<;>try(cases h;done)
 split at h<;>try(cases h;done)
 simp only[Option.some.injEq]at h
 subst h
 exact⟨trivial,trivial⟩
theorem KI {A B:S}(h1:A.fr=B.fr)(h2:A.lam=B.lam)(h3:A.pushed=B.pushed):A=B:=by
 cases A;cases B;simp only at h1 h2 h3;rw[h1,h2,h3]
theorem JJ {s A B C D:S}{Tj Ti:List Nat}{dj di:Option Nat}{vj vi:LV}{hj hi:OpHint}{oj oi:Oper}(hdj:oj.dst=dj)(hdi:oi.dst=di)(hTj:Tj=hj.take)(hTi:Ti=hi.take)
  (d2:pi (dr hj oj) (dr hi oi)=true) (h1:A.fr=(ab Tj s).fr) (h2:B.fr=(ab Ti (A.put dj vj)).fr) (h3:C.fr=(ab Ti s).fr) (h4:D.fr=(ab Tj (C.put di vi)).fr):
  (D.put dj vj).fr=(B.put di vi).fr:=by
 subst hdj hdi hTj hTi
 funext u
 rw[fu h4 u,fu h3 u,fu h2 u,fu h1 u]
 by_cases hu:u∈dr hj oj
 ·have hnw:=hZ d2 u hu
  obtain⟨n1,n2⟩:=fe hnw (.inl rfl)
  rw[dK n1 n2,dK n1 n2]
 ·obtain⟨n1,n2⟩:=fe hu (.inl rfl)
  rw[dK n1 n2,dK n1 n2]
theorem Ib {i j:Nat}{s s1 s2:S}{μ μ1 μ2:Mu}{oj oi:Oper}(hj:ops[j]? =some oj)(hi:ops[i]? =some oi)(d1:pi (xg oj) (oi.looksAt ops)=true)(d2:pi (dr (H.op rg j) oj) (dr (H.op rg i) oi)=true)
  (d3:pi (xg oi) (oj.looksAt ops)=true) (hm:yG (H.op rg j) oj (H.op rg i) oi=true) (h1:eK P ρ H rg ops j s μ=some (s1,μ1)) (h2:eK P ρ H rg ops i s1 μ1=some (s2,μ2)):
  ∃t1 ν1,eK P ρ H rg ops i s μ=some (t1,ν1)∧eK P ρ H rg ops j t1 ν1=some (s2,μ2):=by
 obtain⟨t,c,fx,hh,hg,hop,hcl,htk,htj,hti⟩:=Ge hm
 obtain⟨hgj,⟨ty,hopj⟩,hcell,hhj⟩:=FH htk
 have stJ: ∀s μ,eK P ρ H rg ops j s μ=opt (a7 P ρ (H.op rg j) oj s μ) fun q=>some (q.2.1.put oj.dst q.1,q.2.2):=fun s μ=>by
  simp only[eK,hj,hgj,jM,hhj]
 have stI: ∀s μ,eK P ρ H rg ops i s μ=opt (gA t s μ fun pl ob s μ=>opt (a7 P ρ (H.op rg i) oi s μ) fun q=>fj pl ob q.2.1 q.2.2 fun s μ=>some (q.1,s,μ)) fun q=>some (q.2.1.put oi.dst q.1,q.2.2):=fun s μ=>by
  simp only[eK,hi,hg,jM,hh]
 have ntj:=fe htj (T:=(H.op rg j).take) (.inl rfl)
 have nti:=fe hti (T:=(H.op rg i).take) (.inl rfl)
 have stL: ∀s μ,a7 P ρ (H.op rg j) oj s μ=gB P (H.op rg j) ty (strip (s.fr t)) (ab (H.op rg j).take s) μ fun v s μ=>some (v,s,μ):=fun s μ=>by
  have:iA (H.op rg j).take t=false:=by
   cases hm:iA (H.op rg j).take t with
   |false=>rfl
   |true=>exact absurd (fB.1 hm) ntj.2
  simp only[a7,ck,hopj,evA,this]
 rw[stJ]at h1
 obtain⟨⟨vj,sj,μj⟩,g1,e1⟩:=ac.1 h1
 simp only[Option.some.injEq,Prod.mk.injEq]at e1
 obtain⟨rfl,rfl⟩:=e1
 rw[stL]at g1
 rw[stI]at h2
 obtain⟨⟨vi,si,μi⟩,g2,e2⟩:=ac.1 h2
 simp only[Option.some.injEq,Prod.mk.injEq]at e2
 obtain⟨rfl,rfl⟩:=e2
 have lj:=aQ (H.op rg j).take s
 have hput:=gU sj oj.dst vj
 have hag: ∀{X Y:S},sj.fr=(ab (H.op rg j).take s).fr→X.fr=(sj.put oj.dst vj).fr→Y.fr=s.fr→Ag (H.op rg i) oi X Y:=by
  intro X Y hfr hX hY
  refine AgR.ag (ops:=ops) fun u hu=> ?_
  rw[hX,hY]
  have hnd:oj.dst≠some u:=fun h=>hZ d1 u (by simp[xg,h]) hu
  rw[fu hfr u]
  by_cases hw:u∈dr (H.op rg j) oj
  ·right
   refine⟨?_,(uP hnd).symm⟩
   cases hm:iA (H.op rg i).take u with
   |false=>rfl
   |true=>exact absurd (lX.2 (.inr (fB.1 hm))) (hZ d2 u hw)
  ·obtain⟨n1,n2⟩:=fe hw (.inl rfl)
   exact .inl (dK n1 n2).symm
 have hfrt:sj.fr=(ab (H.op rg j).take s).fr→(sj.put oj.dst vj).fr t=s.fr t:=fun hfr=>by rw[fu hfr t,dK ntj.1 ntj.2]
 have hfrt2: ∀{C:S},C.fr=(ab (H.op rg i).take s).fr→(C.put oi.dst vi).fr t=s.fr t:=fun hfr=>by rw[fu hfr t,dK nti.1 nti.2]
 unfold gB at g1
 rw[hcell]at g1
 cases hx:s.fr t with
 |loc ix off=>
  rw[hx]at g1
  simp only[strip]at g1
  cases hou:(H.op rg j).outer with
  |true=>rw[hou]at g1;cases g1
  |false=>
  rw[hou]at g1
  dsimp only at g1
  obtain⟨q,k1,k2⟩:=ac.1 g1
  simp only[Option.some.injEq,Prod.mk.injEq]at k2
  obtain⟨rfl,esj,rfl⟩:=k2
  rw[lj.1]at k1 esj
  have hsfr:sj.fr=(ab (H.op rg j).take s).fr:=by rw[←esj]
  have hslam:sj.lam=s.lam.set ix q.2:=by rw[←esj]
  have hspu:sj.pushed=s.pushed:=by rw[←esj];exact lj.2
  obtain⟨lv1,lv2⟩:=wo k1
  have hix:=ia lv1
  have hft:=hfrt hsfr
  rw[hx]at hft
  have elam:(sj.put oj.dst q.1).lam=s.lam.set ix q.2:=by rw[hput.1,hslam]
  have epu:(sj.put oj.dst q.1).pushed=s.pushed:=by rw[hput.2,hspu]
  unfold gA at g2
  rw[hft]at g2
  dsimp only at g2
  have hps:s.pushed=true:=by
   cases hp:s.pushed with
   |true=>rfl
   |false=>rw[epu,hp]at g2;cases g2
  have epu2:(sj.put oj.dst q.1).pushed=true:=by rw[epu,hps]
  rw[epu2]at g2
  dsimp only at g2
  obtain⟨_,g2⟩:=aF.1 g2
  obtain⟨⟨v,s',μ'⟩,c1,c2⟩:=ac.1 g2
  simp only[fj]at c2
  obtain⟨c3,c4⟩:=aF.1 c2
  simp only[Option.some.injEq,Prod.mk.injEq]at c4
  obtain⟨rfl,rfl,rfl⟩:=c4
  simp only[Bool.and_eq_true]at c3
  have hlen:ix<s'.lam.length:=by simpa[Nat.blt_eq]using c3.1
  have eob:aG (s.lam.set ix q.2) ix=q.2:=by rw[mz hix,if_pos rfl]
  have eX:({sj.put oj.dst q.1 with lam:=(sj.put oj.dst q.1).lam.set ix .dead,pushed:=true}:S)={sj.put oj.dst q.1 with lam:=(sj.put oj.dst q.1).lam.set ix .dead}:=by rw[←epu2]
  have c5:=jL (h:=H.op rg i) (P:=P) (ρ:=ρ) (μ:=μ) hop hcl (hag (X:={sj.put oj.dst q.1 with lam:=(sj.put oj.dst q.1).lam.set ix .dead}) (Y:={s with lam:=s.lam.set ix .dead}) hsfr rfl rfl)
   (by simp only[elam,List.set_set]) (by simp only[epu])
  have c6:=jL (h:=H.op rg i) (P:=P) (ρ:=ρ) (μ:=μ) hop hcl (Ag.self (s:={sj.put oj.dst q.1 with lam:=(sj.put oj.dst q.1).lam.set ix .dead})) rfl rfl
  have c1':a7 P ρ (H.op rg i) oi {sj.put oj.dst q.1 with lam:=(sj.put oj.dst q.1).lam.set ix .dead} μ=some (v,s',μ'):=by
   rw[←c1]
   congr 1
   exact KI rfl rfl epu2
  rw[c1']at c5 c6
  simp only[a6]at c5 c6
  simp only[Option.some.injEq,Prod.mk.injEq,true_and,and_true]at c6
  have hfs:s'.fr=(ab (H.op rg i).take {sj.put oj.dst q.1 with lam:=(sj.put oj.dst q.1).lam.set ix .dead}).fr:=by rw[c6]
  refine⟨S.put {s' with fr:=(ab (H.op rg i).take {s with lam:=s.lam.set ix .dead}).fr,lam:=s'.lam.set ix (aG s.lam ix)} oi.dst v,μ',?_,?_⟩
  ·rw[stI]
   unfold gA
   rw[hx,hps]
   dsimp only
   have eY:a7 P ρ (H.op rg i) oi {fr:=s.fr,lam:=s.lam.set ix .dead,pushed:=true} μ=a7 P ρ (H.op rg i) oi {s with lam:=s.lam.set ix .dead} μ:=by rw[←hps]
   rw[ax,lV.2 lv1,cond_true,eY,c5]
   simp only[a6,fj,ax,c3.1,c3.2,Bool.and_true,cond_true,hps]
  ·have hft2:=hfrt2 (C:={s' with fr:=(ab (H.op rg i).take {s with lam:=s.lam.set ix .dead}).fr,lam:=s'.lam.set ix (aG s.lam ix)}) (by funext u;rw[g7,g7])
   have hput3:=gU {s' with fr:=(ab (H.op rg i).take {s with lam:=s.lam.set ix .dead}).fr,lam:=s'.lam.set ix (aG s.lam ix)} oi.dst v
   rw[stJ,stL,hft2,hx]
   simp only[strip,gB,hou,hcell]
   have l3:=aQ (H.op rg j).take (S.put {s' with fr:=(ab (H.op rg i).take {s with lam:=s.lam.set ix .dead}).fr,lam:=s'.lam.set ix (aG s.lam ix)} oi.dst v)
   rw[l3.1,hput3.1]
   simp only[mz hlen,if_pos,k1,a6,Option.some.injEq,Prod.mk.injEq,and_true,List.set_set]
   have hputD:=gU {ab (H.op rg j).take (S.put {s' with fr:=(ab (H.op rg i).take {s with lam:=s.lam.set ix .dead}).fr,lam:=s'.lam.set ix (aG s.lam ix)} oi.dst v)with lam:=s'.lam.set ix q.2} oj.dst q.1
   have hputB:=gU {s' with lam:=s'.lam.set ix (aG (sj.put oj.dst q.1).lam ix)} oi.dst v
   refine KI ?_ ?_ ?_
   ·refine JJ (s:=s) rfl rfl rfl rfl d2 (A:=sj) (C:={s' with fr:=(ab (H.op rg i).take {s with lam:=s.lam.set ix .dead}).fr,lam:=s'.lam.set ix (aG s.lam ix)}) hsfr ?_ ?_ rfl
    ·simp only
     rw[hfs]
     funext u
     rw[g7,g7]
    ·funext u
     simp only[g7]
   ·rw[hputD.1,hputB.1,elam,eob]
   ·rw[hputD.2,hputB.2]
    simp only
    rw[l3.2,hput3.2]
 |cv cc=>
  rw[hx]at g1
  simp only[strip]at g1
  cases hou:(H.op rg j).outer with
  |false=>
   rw[hou]at g1
   dsimp only at g1
   obtain⟨cs,v1,g1⟩:=ac.1 g1
   obtain⟨c',v2,v3⟩:=ac.1 g1
   simp only[Option.some.injEq,Prod.mk.injEq]at v3
   obtain⟨rfl,rfl,rfl⟩:=v3
   have hft:=hfrt rfl
   rw[hx]at hft
   unfold gA at g2
   rw[hft]at g2
   dsimp only at g2
   obtain⟨q,r1,_⟩:=ac.1 g2
   cases cc<;>simp[dq,mw]at v1 r1
  |true=>
  rw[hou]at g1
  dsimp only at g1
  obtain⟨⟨lev,ix,off⟩,r1,g1⟩:=ac.1 g1
  obtain⟨q,k1,k2⟩:=ac.1 g1
  have key: ∀(X:S) (M:Mu),(cW P true ty q.1 fun v=>some (v,X,M))=some (vj,X,M):=by
   intro X M
   have:(cW P true ty q.1 fun v=>some (v,X,M))=opt (cW P true ty q.1 fun v=>some (v,ab (H.op rg j).take s,bj μ lev ix q.2)) fun q=>some (q.1,X,M):=by
    rw[ib]
    rfl
   rw[this,k2]
   rfl
  have k3:=key (ab (H.op rg j).take s) (bj μ lev ix q.2)
  rw[k3]at k2
  simp only[Option.some.injEq,Prod.mk.injEq,true_and]at k2
  obtain⟨rfl,rfl⟩:=k2
  obtain⟨lv1,lv2⟩:=wo k1
  have hin:=TO lv1
  have hft:=hfrt rfl
  rw[hx]at hft
  unfold gA at g2
  rw[hft]at g2
  dsimp only at g2
  rw[r1,a6]at g2
  dsimp only at g2
  obtain⟨_,g2⟩:=aF.1 g2
  rw[yZ hin,Bi]at g2
  obtain⟨⟨v,s',μ'⟩,c1,c2⟩:=ac.1 g2
  simp only[fj]at c2
  obtain⟨c3,c4⟩:=aF.1 c2
  simp only[Option.some.injEq,Prod.mk.injEq]at c4
  obtain⟨rfl,rfl,rfl⟩:=c4
  simp only[Bool.and_eq_true]at c3
  have elam:(S.put (ab (H.op rg j).take s) oj.dst vj).lam=s.lam:=by rw[hput.1,lj.1]
  have epu:(S.put (ab (H.op rg j).take s) oj.dst vj).pushed=s.pushed:=by rw[hput.2,lj.2]
  have c5:=jL (h:=H.op rg i) (P:=P) (ρ:=ρ) (μ:=bj μ lev ix .dead) hop hcl (hag (X:=S.put (ab (H.op rg j).take s) oj.dst vj) (Y:=s) rfl rfl rfl) elam.symm epu.symm
  have c6:=jL (h:=H.op rg i) (P:=P) (ρ:=ρ) (μ:=bj μ lev ix .dead) hop hcl (Ag.self (s:=S.put (ab (H.op rg j).take s) oj.dst vj)) rfl rfl
  rw[c1]at c5 c6
  simp only[a6]at c5 c6
  simp only[Option.some.injEq,Prod.mk.injEq,true_and,and_true]at c6
  have hfs:s'.fr=(ab (H.op rg i).take (S.put (ab (H.op rg j).take s) oj.dst vj)).fr:=by rw[c6]
  refine⟨S.put {s' with fr:=(ab (H.op rg i).take s).fr} oi.dst v,bj μ' lev ix (aU μ lev ix),?_,?_⟩
  ·rw[stI]
   unfold gA
   rw[hx]
   dsimp only
   rw[r1,a6]
   dsimp only
   rw[ax,lV.2 lv1,cond_true,c5]
   simp only[a6,fj,ax,c3.1,c3.2,Bool.and_true,cond_true]
  ·have hft2:=hfrt2 (C:={s' with fr:=(ab (H.op rg i).take s).fr}) rfl
   have hput3:=gU {s' with fr:=(ab (H.op rg i).take s).fr} oi.dst v
   rw[stJ,stL,hft2,hx]
   simp only[strip,gB,hou,hcell]
   rw[r1,a6]
   dsimp only
   rw[yZ c3.1,k1,a6,key,a6,Bi]
   simp only[Option.some.injEq,Prod.mk.injEq,and_true]
   have l3:=aQ (H.op rg j).take (S.put {s' with fr:=(ab (H.op rg i).take s).fr} oi.dst v)
   have hputD:=gU (ab (H.op rg j).take (S.put {s' with fr:=(ab (H.op rg i).take s).fr} oi.dst v)) oj.dst vj
   have hputB:=gU s' oi.dst v
   refine KI ?_ ?_ ?_
   ·refine JJ (s:=s) rfl rfl rfl rfl d2 (A:=ab (H.op rg j).take s) (C:={s' with fr:=(ab (H.op rg i).take s).fr}) rfl ?_ rfl rfl
    rw[hfs]
   ·rw[hputD.1,hputB.1,l3.1,hput3.1]
   ·rw[hputD.2,hputB.2,l3.2,hput3.2]
 |osl _=>rw[hx]at g1;simp only[strip]at g1;cases hou:(H.op rg j).outer<;>rw[hou]at g1<;>cases g1
 |ost _=>rw[hx]at g1;simp only[strip]at g1;cases g1
 |stl _=>rw[hx]at g1;simp only[strip]at g1;cases g1
 |lsl _ _ _=>rw[hx]at g1;simp only[strip]at g1;cases g1
 |lclo _ _=>rw[hx]at g1;simp only[strip]at g1;cases g1
 |mloc _=>rw[hx]at g1;simp only[strip]at g1;cases g1
 |tloc _ _ _=>rw[hx]at g1;simp only[strip]at g1;cases g1
 |ltup _=>rw[hx]at g1;simp only[strip]at g1;cases g1
theorem ZG {i j:Nat}{s s1 s2:S}{μ μ1 μ2:Mu}(hind:vx H rg ops j i=true)(h1:eK P ρ H rg ops j s μ=some (s1,μ1))(h2:eK P ρ H rg ops i s1 μ1=some (s2,μ2)):
  ∃t1 ν1,eK P ρ H rg ops i s μ=some (t1,ν1)∧eK P ρ H rg ops j t1 ν1=some (s2,μ2):=by
 unfold vx at hind
 split at hind<;>try(cases hind;done)
 rename_i oj oi hj hi
 simp only[Bool.and_eq_true,Bool.or_eq_true]at hind
 obtain⟨⟨⟨d1,d2⟩,d3⟩,hm⟩:=hind
 rcases hm with hm|hm
 rotate_left
 ·exact Ib hj hi d1 d2 d3 hm h1 h2
 have hkj:iD (H.op rg j) oj≠ .all:=fun e=>by rw[e]at hm;simp[eQ]at hm
 have hki:iD (H.op rg i) oi≠ .all:=fun e=>by rw[e]at hm;revert hm;cases iD (H.op rg j) oj<;>simp[eQ]
 rw[nh hj]at h1
 obtain⟨⟨vj,sj,μj⟩,g1,e1⟩:=ac.1 h1
 simp only[Option.some.injEq,Prod.mk.injEq]at e1
 obtain⟨rfl,rfl⟩:=e1
 rw[nh hi]at h2
 obtain⟨⟨vi,si,μi⟩,g2,e2⟩:=ac.1 h2
 simp only[Option.some.injEq,Prod.mk.injEq]at e2
 obtain⟨rfl,rfl⟩:=e2
 obtain⟨Tj,kj,hTj,hkj',Ej⟩:=Dh (t:=s) (ν:=μ) (fun _ _=> .inl rfl) hkj g1
 obtain⟨Ti,ki,hTi,hki',Ei⟩:=Dh (t:=sj.put oj.dst vj) (ν:=μj) (fun _ _=> .inl rfl) hki g2
 have hcond0: ∀k:Kind,dN k s s μ μ:=fun k=>by cases k<;>simp[dN,SameOb.refl]
 obtain⟨Lj,frj⟩:=(Ej s μ (fun _ _=> .inl rfl) (hcond0 _)).left
 have hput:=gU sj oj.dst vj
 have Lj':ny kj s (sj.put oj.dst vj) μ μj:=by
  unfold ny at Lj ⊢
  rw[hput.1,hput.2]
  exact Lj
 have hahead:=FP hm hkj' hki'
 have hag1:AgR (H.op rg i) ops oi (sj.put oj.dst vj) s:=by
  intro u hu
  have hnd:oj.dst≠some u:=fun h=>hZ d1 u (by simp[xg,h]) hu
  rw[fu frj u]
  by_cases hw:u∈dr (H.op rg j) oj
  ·right
   refine⟨?_,(uP hnd).symm⟩
   cases hm:iA (H.op rg i).take u with
   |false=>rfl
   |true=>exact absurd (lX.2 (.inr (fB.1 hm))) (hZ d2 u hw)
  ·obtain⟨n1,n2⟩:=fe hw hTj
   exact .inl (dK n1 n2).symm
 have hc1:dN (iD (H.op rg i) oi) (sj.put oj.dst vj) s μj μ:=by
  refine NL ?_ hki Lj'
  rcases hkj' with rfl|rfl
  ·exact .inl hm
  ·exact .inr rfl
 obtain⟨X,ν1,hX,frX,puX,memX,LX⟩:=(Ei s μ hag1 hc1).out
 have hputX:=gU X oi.dst vi
 have LX':ny ki s (X.put oi.dst vi) μ ν1:=by
  unfold ny at LX ⊢
  rw[hputX.1,hputX.2]
  exact LX
 have hag2:AgR (H.op rg j) ops oj s (X.put oi.dst vi):=by
  intro u hu
  have hnd:oi.dst≠some u:=fun h=>hZ d3 u (by simp[xg,h]) hu
  rw[fu frX u]
  by_cases hw:u∈dr (H.op rg i) oi
  ·right
   refine⟨?_,uP hnd⟩
   cases hm:iA (H.op rg j).take u with
   |false=>rfl
   |true=>exact absurd hw (hZ d2 u (lX.2 (.inr (fB.1 hm))))
  ·obtain⟨n1,n2⟩:=fe hw hTi
   exact .inl (dK n1 n2)
 have hc2:dN (iD (H.op rg j) oj) s (X.put oi.dst vi) μ ν1:=by
  refine QT (ki:=ki) ?_ hkj LX'
  rcases hki' with rfl|rfl
  ·exact .inl hm
  ·exact .inr rfl
 obtain⟨Y,ν2,hY,frY,puY,memY,LY⟩:=(Ej _ _ hag2 hc2).out
 refine⟨X.put oi.dst vi,ν1,by rw[nh hi,hX];rfl,?_⟩
 rw[nh hj,hY]
 simp only[a6,Option.some.injEq,Prod.mk.injEq]
 have hputY:=gU Y oj.dst vj
 have hputi:=gU si oi.dst vi
 obtain⟨Li,fri⟩:=(Ei _ μj (fun _ _=> .inl rfl) (by cases iD (H.op rg i) oi<;>simp[dN,SameOb.refl])).left
 have hmem:Y.lam=si.lam∧ν2=μi∧Y.pushed=si.pushed:=by
  rw[hput.1]at memX
  rw[hputX.1]at memY
  have p1:si.pushed=s.pushed:=by rw[Li.1,hput.2,Lj.1]
  have p2:Y.pushed=s.pushed:=by rw[puY,hputX.2,puX]
  obtain⟨m1,m2⟩:=Rk hahead memX memY
  exact⟨m1,m2,by rw[p1,p2]⟩
 refine⟨?_,hmem.2.1⟩
 have hfr: ∀u,(Y.put oj.dst vj).fr u=(si.put oi.dst vi).fr u:=by
  intro u
  rw[fu frY u,fu frX u,fu fri u,fu frj u]
  by_cases hu:u∈dr (H.op rg j) oj
  ·have hnw:=hZ d2 u hu
   obtain⟨n1,n2⟩:=fe hnw hTi
   rw[dK n1 n2,dK n1 n2]
  ·obtain⟨n1,n2⟩:=fe hu hTj
   rw[dK n1 n2,dK n1 n2]
 have e1:(Y.put oj.dst vj).fr=(si.put oi.dst vi).fr:=funext hfr
 have e2:(Y.put oj.dst vj).lam=(si.put oi.dst vi).lam:=by rw[hputY.1,hputi.1];exact hmem.1
 have e3:(Y.put oj.dst vj).pushed=(si.put oi.dst vi).pushed:=by rw[hputY.2,hputi.2];exact hmem.2.2
 revert e1 e2 e3
 generalize Y.put oj.dst vj=A
 generalize si.put oi.dst vi=B
 intro e1 e2 e3
 cases A;cases B
 simp only at e1 e2 e3
 rw[e1,e2,e3]
end
end Go.Abs
set_option linter.unusedVariables false
set_option linter.unusedSimpArgs false
namespace Go.Abs
open Go
section
variable {P:Program}{ρ:Rho}{H:Hints}{rg:Nat}{ops:Array Oper}{α:Type}
def oh (P:Program)(ρ:Rho)(H:Hints)(rg:Nat)(ops:Array Oper):List Nat→S→Mu→Option (S×Mu)
 |[],s,μ=>some (s,μ)
 |i::r,s,μ=>opt (eK P ρ H rg ops i s μ) fun q=>oh P ρ H rg ops r q.1 q.2
theorem Fg: ∀{l:List Nat} (hf: ∀i∈l,jO (H.op rg i)=true) {s:S} {μ:Mu} {k:S→Mu→Option α},
  fg P ρ H rg ops l s μ k (fun _ _ _=>none)=opt (oh P ρ H rg ops l s μ) fun q=>k q.1 q.2
 |[],hf,s,μ,k=>by simp only[fg,oh,a6]
 |i::r,hf,s,μ,k=>by
  rw[PV (hf i (by simp)),oh,aI]
  congr;funext q
  exact Fg fun j hj=>hf j (List.mem_cons_of_mem _ hj)
theorem S0 {i:Nat}: ∀{l:List Nat} {s:S} {μ:Mu} {out:S×Mu},l.Pairwise (· < ·)→i∈l→(∀j∈l,j<i→vx H rg ops j i=true)→oh P ρ H rg ops l s μ=some out→
  ∃q,eK P ρ H rg ops i s μ=some q∧oh P ρ H rg ops (l.erase i) q.1 q.2=some out
 |[],s,μ,out,hp,hi,hx,h=>by simp at hi
 |j::r,s,μ,out,hp,hi,hx,h=>by
  simp only[oh]at h
  obtain⟨q,h1,h2⟩:=ac.1 h
  by_cases hji:j=i
  ·subst hji
   exact⟨q,h1,by simpa using h2⟩
  ·have hir:i∈r:=by
    rcases List.mem_cons.1 hi with rfl|h
    ·exact absurd rfl hji
    ·exact h
   rw[List.pairwise_cons]at hp
   obtain⟨p,k1,k2⟩:=S0 hp.2 hir (fun k hk hlt=>hx k (List.mem_cons_of_mem _ hk) hlt) h2
   obtain⟨s1,μ1⟩:=q
   obtain⟨s2,μ2⟩:=p
   obtain⟨t1,ν1,m1,m2⟩:=ZG (hx j (by simp) (hp.1 i hir)) h1 k1
   refine⟨(t1,ν1),m1,?_⟩
   rw[List.erase_cons_tail (by simpa using hji)]
   simp only[oh]
   exact ac.2 ⟨_,m2,k2⟩
theorem qV {f:Nat→Bool}: ∀{n:Nat},C2 f n=true→ ∀i,i<n→f i=true
 |0,_,i,hi=>by omega
 |n+1,h,i,hi=>by
  simp only[C2]at h
  split at h<;>try(cases h;done)
  rename_i hn
  rcases Nat.lt_or_ge i n with h1|h1
  ·exact qV h i h1
  ·have:i=n:=by omega
   subst this
   exact hn
theorem JR {i:Nat}: ∀{l:List Nat},ltB i l=true→ ∀p∈l,p<i
 |[],_,p,hp=>by simp at hp
 |q::r,h,p,hp=>by
  simp only[ltB]at h
  split at h<;>try(cases h;done)
  rename_i hq
  rcases List.mem_cons.1 hp with rfl|hp
  ·simpa[Nat.blt_eq]using hq
  ·exact JR h p hp
theorem ur {rows:List (List Nat)}: ∀{l:List Nat} {j:Nat},j∈zu rows l→ ∃p∈l,j=p∨j∈rows.getD p []
 |[],j,h=>by simp[zu]at h
 |p::r,j,h=>by
  simp only[zu,List.mem_cons,List.mem_append]at h
  rcases h with h|h|h
  ·exact⟨p,by simp,.inl h⟩
  ·exact⟨p,by simp,.inr h⟩
  ·obtain⟨q,h1,h2⟩:=ur h
   exact⟨q,List.mem_cons_of_mem _ h1,h2⟩
theorem dE: ∀n,(ft ops n).length=n
 |0=>rfl
 |n+1=>by simp[ft,dE n]
theorem yd {n i:Nat}(h:i<n):(ft ops (n+1)).getD i []=(ft ops n).getD i []:=by
 simp only[ft,List.getD_eq_getElem?_getD]
 rw[List.getElem?_append_left (by rw[dE];exact h)]
def Cp (ops:Array Oper)(U:Nat→Prop):Prop:= ∀i,U i→ ∀p∈jq ops i,U p
theorem qZ {U:Nat→Prop}(hU:Cp ops U): ∀{n i j:Nat},i<n→j∈(ft ops n).getD i []→U i→U j∧True
 |0,i,j,hi,_,_=>by omega
 |n+1,i,j,hi,hj,hui=>by
  rcases Nat.lt_or_ge i n with h1|h1
  ·rw[yd h1]at hj
   exact qZ hU h1 hj hui
  ·have:i=n:=by omega
   subst this
   simp only[ft,List.getD_eq_getElem?_getD]at hj
   rw[List.getElem?_append_right (by rw[dE];exact Nat.le_refl _),dE]at hj
   simp only[Nat.sub_self,List.getElem?_cons_zero,Option.getD_some]at hj
   obtain⟨p,hp,h2⟩:=ur hj
   have hup:=hU i hui p hp
   rcases h2 with rfl|h2
   ·exact⟨hup,trivial⟩
   ·rcases Nat.lt_or_ge p i with h3|h3
    ·exact qZ hU h3 h2 hup
    ·rw[List.getD_eq_getElem?_getD,List.getElem?_eq_none (by rw[dE];exact h3)]at h2
     simp at h2
theorem KP {U:Nat→Prop}(hU:Cp ops U){n i j:Nat}(hi:i<n)(hp: ∀p∈jq ops i,U p)(hj:j∈(ft ops n).getD i []):U j:=by
 induction n with
 |zero=>omega
 |succ n ih=>
  rcases Nat.lt_or_ge i n with h1|h1
  ·rw[yd h1]at hj
   exact ih h1 hj
  ·have:i=n:=by omega
   subst this
   simp only[ft,List.getD_eq_getElem?_getD]at hj
   rw[List.getElem?_append_right (by rw[dE];exact Nat.le_refl _),dE]at hj
   simp only[Nat.sub_self,List.getElem?_cons_zero,Option.getD_some]at hj
   obtain⟨p,hpp,h2⟩:=ur hj
   have hup:=hp p hpp
   rcases h2 with rfl|h2
   ·exact hup
   ·rcases Nat.lt_or_ge p i with h3|h3
    ·exact(qZ hU h3 h2 hup).1
    ·rw[List.getD_eq_getElem?_getD,List.getElem?_eq_none (by rw[dE];exact h3)]at h2
     simp at h2
theorem Bh {i p:Nat}{o:Oper}(ho:ops[i]? =some o):p∈jq ops i↔ ∃e∈o.after,Region.binds .any e=true∧e.on=p:=by
 simp only[jq,ho,List.mem_map,List.mem_filter,Array.mem_toList_iff]
 constructor
 ·rintro⟨e,⟨h1,h2⟩,h3⟩;exact⟨e,h1,h2,h3⟩
 ·rintro⟨e,h1,h2,h3⟩;exact⟨e,⟨h1,h2⟩,h3⟩
variable {W0:World}{L:Nat}{r:α}{Q:Exit→Act→World→Prop}
theorem H1 (hrho:d7 P W0 ρ){i:Nat}(hf:jO (H.op rg i)=true){G:Gh}{w:World}{s s':S}{μ μ':Mu}{a:Act}{n:Nat}{ds:Keep}(hlt: ∀(i:Nat) (o:Oper),ops[i]? =some o→ ∀d,o.dst=some d→d<n∧ds.lets d)
  (hkn:Kn W0 w (aB G w s μ a.tmps)) (hds:ds.at a) (h:eK P ρ H rg ops i s μ=some (s',μ')) (R:Rel G L s μ a.tmps w) (hn:a.tmps.size=n) {K:Act→World→Prop}
  (hK: ∀a' w' G',Rel G' L s' μ' a'.tmps w'→Ext L (aB G w s μ a.tmps) G w G' w' (aB G' w' s' μ' a'.tmps)→a'.tmps.size=n→ds.at a'→K a' w'):wpOp P ops Q i K a w:=by
 unfold wpOp
 simp only[eK]at h
 cases ho:ops[i]? with
 |none=>rw[ho]at h;cases h
 |some o=>
  rw[ho]at h
  simp only at h ⊢
  have hlt': ∀d,o.dst=some d→d<a.tmps.size:=fun d hd=>by rw[hn];exact(hlt i o ho d hd).1
  have hlt2: ∀(i:Nat) (o:Oper),ops[i]? =some o→ ∀d,o.dst=some d→d<a.tmps.size:=fun i o ho d hd=>by rw[hn];exact(hlt i o ho d hd).1
  have run:(opt (jM P ρ (H.op rg i) o s μ) fun q=>some (q.2.1.put o.dst q.1,q.2.2))=some (s',μ')→o.wp P a w K Q:=by
   intro h
   have h2:opK P ρ (H.op rg i) o s μ (fun v s μ=>some (s.put o.dst v,μ)) (fun _ _ _=>none)=some (s',μ'):=by rw[xA hf];exact h
   refine o4 (L:=L) (G:=G) (r:=(s',μ')) (k:=fun v s μ=>some (s.put o.dst v,μ)) (p:=fun _ _ _=>none) R hlt' ?_ ?_ hrho hkn h2
   ·intro v s1 μ1 cv w' G' he R' E'
    simp only[Option.some.injEq,Prod.mk.injEq]at he
    obtain⟨rfl,rfl⟩:=he
    exact hK _ w' G' R' E' (by rw[(jQ a o.dst cv).1];exact hn) (Keep.put hds fun d hd=>(hlt i o ho d hd).2)
   ·intro v s1 μ1 pv w' G' he
    cases he
  cases hg:o.guard with
  |none=>
   rw[hg]at h
   have hw:Region.wanted o (yielded ops a.tmps)=true:=by simp[Region.wanted,hg]
   rw[if_pos hw]
   exact .inl (run h)
  |some g=>
   rw[hg]at h
   simp only at h
   obtain⟨d,hd,h⟩:=ac.1 h
   obtain⟨b,hb,h⟩:=ac.1 h
   have hy:yielded ops a.tmps g.1=b:=by
    cases b with
    |none=>exact vd R hd hlt2 hb
    |some b=>exact zM R hd hlt2 (mQ hb)
   obtain⟨j,want⟩:=g
   simp only at hd hy h
   split at h
   ·rename_i hbw
    have hw:Region.wanted o (yielded ops a.tmps)=true:=by
     have:b=some want:=by simpa using hbw
     subst this
     simp[Region.wanted,hg,hy]
    rw[if_pos hw]
    exact .inl (run h)
   ·rename_i hbw
    have hw: ¬Region.wanted o (yielded ops a.tmps)=true:=by
     have: ¬b=some want:=by simpa using hbw
     simp[Region.wanted,hg,hy,this]
    rw[if_neg hw]
    simp only[Option.some.injEq,Prod.mk.injEq]at h
    obtain⟨rfl,rfl⟩:=h
    obtain⟨R2,E2⟩:=R.skip o.dst hlt'
    exact hK _ w G R2 E2 (by rw[(jQ a o.dst undef).1];exact hn) (Keep.put hds fun d hd=>(hlt i o ho d hd).2)
theorem Nz (hrho:d7 P W0 ρ)(hdr:DH H rg ops=true){T:Nat→Prop}{G0:Gh}{w0:World}{n:Nat}{ds:Keep}{k:S→Mu→Option α}(hlt: ∀(i:Nat) (o:Oper),ops[i]? =some o→ ∀d,o.dst=some d→d<n∧ds.lets d)
  (hkn:Kn W0 w0 T) (hk:Kl L G0 w0 T n ds k r Q): ∀(fuel:Nat) {l:List Nat} {listed:Array Bool} {G:Gh} {w:World} {s:S} {μ:Mu} {a:Act},
  l.length≤fuel→listed.size=ops.size→l.Pairwise (· < ·)→(∀i,i∈l↔i<ops.size∧listed.getD i true=false)→Cp ops (fun i=>listed.getD i false=true)→
  (opt (oh P ρ H rg ops l s μ) fun q=>k q.1 q.2)=some r→Rel G L s μ a.tmps w→Ext L T G0 w0 G w (aB G w s μ a.tmps)→a.tmps.size=n→ds.at a→
  wpAny P .any ops Q fuel listed a w:=by
 have hok: ∀i,i<ops.size→(∀p∈jq ops i,p<i)∧jO (H.op rg i)=true∧ ∀j,j<i→j∈(ft ops ops.size).getD i []∨vx H rg ops j i=true:=by
  intro i hi
  have:=qV hdr i hi
  simp only[Bool.and_eq_true]at this
  obtain⟨⟨h1,h2⟩,h3⟩:=this
  refine⟨JR h1,h2,fun j hj=> ?_⟩
  have:=qV h3 j hj
  simp only[Bool.or_eq_true]at this
  exact this.imp fB.1 id
 have hnil: ∀{l:List Nat} {listed:Array Bool} {G:Gh} {w:World} {s:S} {μ:Mu} {a:Act},l=[]→(opt (oh P ρ H rg ops l s μ) fun q=>k q.1 q.2)=some r→Rel G L s μ a.tmps w→Ext L T G0 w0 G w (aB G w s μ a.tmps)→a.tmps.size=n→ds.at a→Q .normal a w:=by
  intro l listed G w s μ a hl h R E hn hds
  subst hl
  simp only[oh,a6]at h
  exact hk s μ a w G h R E hn hds
 have hready: ∀{l:List Nat} {listed:Array Bool},listed.size=ops.size→l.Pairwise (· < ·)→(∀i,i∈l↔i<ops.size∧listed.getD i true=false)→Region.ready .any ops listed=[]→l=[]:=by
  intro l listed hsz hp hl hr
  cases l with
  |nil=>rfl
  |cons m rest=>
   exfalso
   rw[List.pairwise_cons]at hp
   obtain⟨hm1,hm2⟩:=(hl m).1 (by simp)
   have:m∈Region.ready .any ops listed:=by
    refine mem_ready.2 ⟨?_,ops[m],by simp[hm1],fun e he hb=> ?_⟩
    ·simp[Array.getD_eq_getD_getElem?,hsz,hm1]at hm2 ⊢; exact hm2
    ·have hpm:e.on∈jq ops m:=(Bh (o:=ops[m]) (by simp[hm1])).2 ⟨e,he,hb,rfl⟩
     have hlt:=(hok m hm1).1 _ hpm
     by_cases hle:listed.getD e.on true=false
     ·have:=(hl e.on).2 ⟨by omega,hle⟩
      rcases List.mem_cons.1 this with h|h
      ·omega
      ·have:=hp.1 _ h;omega
     ·have hlt2:e.on<listed.size:=by omega
      simp[Array.getD_eq_getD_getElem?,hlt2]at hle ⊢; exact hle
   rw[hr]at this
   cases this
 intro fuel
 induction fuel with
 |zero=>
  intro l listed G w s μ a hf hsz hp hl hcl h R E hn hds
  have:l=[]:=List.length_eq_zero_iff.1 (by omega)
  refine⟨?_,hnil (listed:=listed) this h R E hn hds⟩
  cases hr:Region.ready .any ops listed with
  |nil=>rfl
  |cons m rest=>
   exfalso
   have hm:m∈Region.ready .any ops listed:=by rw[hr];simp
   obtain⟨h1,o,ho,_⟩:=mem_ready.1 hm
   have hlt:m<ops.size:=(Array.getElem?_eq_some_iff.1 ho).1
   have:=(hl m).2 ⟨hlt,by simp[Array.getD_eq_getD_getElem?,hsz,hlt]at h1 ⊢; exact h1⟩
   subst l
   simp at this
 |succ fuel ih=>
  intro l listed G w s μ a hf hsz hp hl hcl h R E hn hds
  refine⟨fun hr=>hnil (listed:=listed) (hready hsz hp hl hr) h R E hn hds,fun i hi=> ?_⟩
  obtain⟨h1,o,ho,hall⟩:=mem_ready.1 hi
  have hlti:i<ops.size:=(Array.getElem?_eq_some_iff.1 ho).1
  have hun:listed.getD i true=false:=by simp[Array.getD_eq_getD_getElem?,hsz,hlti]at h1 ⊢; exact h1
  have hil:i∈l:=(hl i).2 ⟨hlti,hun⟩
  have hpl: ∀p∈jq ops i,listed.getD p false=true:=by
   intro p hp
   obtain⟨e,he,hb,rfl⟩:=(Bh ho).1 hp
   exact hall e he hb
  obtain⟨out,h2,h3⟩:=ac.1 h
  have hind: ∀j∈l,j<i→vx H rg ops j i=true:=by
   intro j hj hji
   rcases(hok i hlti).2.2 j hji with hanc|hx
   ·exfalso
    have hu:=KP hcl hlti hpl hanc
    obtain⟨hj1,hj2⟩:=(hl j).1 hj
    have hj3:j<listed.size:=by omega
    simp[Array.getD_eq_getD_getElem?,hj3]at hu hj2
    rw[hu]at hj2
    cases hj2
   ·exact hx
  obtain⟨⟨s1,μ1⟩,k1,k2⟩:=S0 hp hil hind h2
  refine H1 hrho (hok i hlti).2.1 hlt (hkn.ext E) hds k1 R hn fun a' w' G' R' E' hn' hd'=> ?_
  refine ih (l:=l.erase i) ?_ (by simp[hsz]) (hp.sublist List.erase_sublist) (fun j=> ?_) ?_ (ac.2 ⟨out,k2,h3⟩) R' (E.trans E') hn' hd'
  ·rw[List.length_erase_of_mem hil];omega
  ·have hnd:l.Nodup:=hp.imp fun h=>Nat.ne_of_lt h
   rw[hnd.mem_erase_iff,hl]
   constructor
   ·rintro⟨h1,h2,h3⟩
    exact⟨h2,by rw[getD_set_ne true (Ne.symm h1)];exact h3⟩
   ·rintro⟨h2,h3⟩
    by_cases hji:j=i
    ·subst hji
     simp[Array.getD_eq_getD_getElem?,Array.getElem?_setIfInBounds,hsz,hlti]at h3
    ·exact⟨hji,h2,by rw[getD_set_ne true (Ne.symm hji)]at h3;exact h3⟩
  ·intro j hj p hp
   by_cases hji:j=i
   ·subst hji
    exact getD_set_true (hpl p hp)
   ·rw[getD_set_ne false (Ne.symm hji)]at hj
    exact getD_set_true (hcl j hj p hp)
theorem F3 (hrho:d7 P W0 ρ)(hm:P.follows .mixedOrders=true)(hdr:DH H rg ops=true){T:Nat→Prop}{G0 G:Gh}{w0 w:World}{n:Nat}{ds:Keep}{s:S}{μ:Mu}{a:Act}{k:S→Mu→Option α}{id:Nat}
  (hlt: ∀(i:Nat) (o:Oper),ops[i]? =some o→ ∀d,o.dst=some d→d<n∧ds.lets d) (hkn:Kn W0 w0 T) (hk:Kl L G0 w0 T n ds k r Q)
  (h:fg P ρ H rg ops (List.range ops.size) s μ k (fun _ _ _=>none)=some r) (R:Rel G L s μ a.tmps w) (E:Ext L T G0 w0 G w (aB G w s μ a.tmps)) (hn:a.tmps.size=n) (hds:ds.at a):
  (Code.region id ops true).wp P Q a w:=by
 refine wp_region_any hm ?_
 rw [Fg fun i hi => by
  have:=qV hdr i (by simpa using hi)
  simp only[Bool.and_eq_true]at this
  exact this.1.2]at h
 obtain⟨R',hO⟩:=R.drew
 refine Nz (L:=L) (w:=w.drew) hrho hdr hlt hkn hk ops.size (by simp) (by simp) List.pairwise_lt_range (fun i=> ?_) (fun i hi=> ?_) h R' (E.trans ⟨⟨fun _ _ _ h hb=>⟨h,hb⟩,fun _ _ h=>⟨h,rfl,rfl⟩,fun _ _ _ h hc=>⟨h,hc⟩,fun b cur e fz h=>⟨cur,fz,h,rfl⟩⟩,rfl,rfl,rfl,Nat.le_refl _,fun _ _ _=>⟨rfl,rfl⟩,fun b hb=> .inl ?_,fun _ _=>⟨fun _=>⟨rfl,rfl⟩,rfl⟩⟩) hn hds
 ·simp only[List.mem_range]
  constructor
  ·intro h;exact⟨h,by simp[Array.getD_eq_getD_getElem?,h]⟩
  ·exact fun h=>h.1
 ·exfalso
  simp only[Array.getD_eq_getD_getElem?]at hi
  rcases Nat.lt_or_ge i ops.size with h1|h1
  ·simp[h1]at hi
  ·simp[h1]at hi
 ·rcases hb with⟨l,hb⟩|hb
  ·exact .inl ⟨l,hO l b hb⟩
  ·exact .inr hb
end
end Go.Abs
set_option linter.unusedVariables false
set_option linter.unusedSimpArgs false
namespace Go.Abs
open Go
theorem ma (l:Lam): ∀(n:Nat) (todo acc:List Nat),acc.Nodup→(o8 l n todo acc).Nodup
 |0,_,acc,h=>by simpa[o8]using h
 |n+1,[],acc,h=>by simpa[o8]using h
 |n+1,i::todo,acc,h=>by
  simp only[o8]
  split
  ·exact ma l n todo acc h
  ·rename_i hm
   have hni:i ∉ acc:=fun hi=>by rw[fB.2 hi]at hm;cases hm
   have h2:(acc++[i]).Nodup:=by
    rw[List.nodup_append]
    refine⟨h,by simp,fun a ha b hb=> ?_⟩
    simp only[List.mem_singleton]at hb
    subst hb
    exact fun e=>hni (e▸ha)
   split
   ·exact ma l n _ _ h2
   ·exact ma l n _ _ h2
theorem kN: ∀{m:List Nat} {n i j:Nat},oU m n i=some j→n≤j∧m[j-n]? =some i
 |[],n,i,j,h=>by simp[oU]at h
 |a::r,n,i,j,h=>by
  simp only[oU]at h
  split at h
  ·rename_i e
   simp only[Option.some.injEq]at h
   subst h
   have:=Nat.eq_of_beq_eq_true e
   subst this
   simp
  ·obtain⟨h1,h2⟩:=kN h
   refine⟨by omega,?_⟩
   rw[show j-n=(j-(n+1))+1 by omega]
   simpa using h2
def Gh.order (G:Gh)(L:Nat)(m:List Nat):Gh where
 O:=G.O
 β:=fun l j=>if l=L then G.β L (m.getD j 0)else G.β l j
 n:=G.n
 sz:=fun l j=>if l=L then G.sz L (m.getD j 0)else G.sz l j
section
variable {G:Gh}{w:World}{L:Nat}{μ:Mu}{tm:Array Value}{s:S}
theorem Rel.refr (R:Rel G L s μ tm w){fr':Fr}(hf: ∀t,LVR G w L s.lam.length (fr' t) (tm.getD t undef)∧ ∀b,aH (fr' t) (tm.getD t undef) b→aH (s.fr t) (tm.getD t undef) b):
  Rel G L {s with fr:=fr'} μ tm w∧(∀l b,ay G w fr' tm (μ++[s.lam]) l b→ay G w s.fr tm (μ++[s.lam]) l b):=by
 have hown: ∀l b,ay G w fr' tm (μ++[s.lam]) l b→ay G w s.fr tm (μ++[s.lam]) l b:=by
  intro l b h
  cases l with
  |fr t=>exact(hf t).2 b h
  |ob lev i k=>exact h
 exact⟨⟨R.lev,fun t=>(hf t).1,R.lam,R.mu,R.inj,fun l l' b h h'=>R.own l l' b (hown l b h) (hown l' b h'),fun l b lev i h h'=>R.apart l b lev i (hown l b h) h',R.nlt,R.nL,R.ngt⟩,hown⟩
theorem wI (m:List Nat)(h0:G.n L=0):Le G w (G.order L m) w:=by
 refine⟨fun _ _ _ h hb=>⟨h,hb⟩,fun lev i h=> ?_,fun _ _ _ h hc=>⟨h,hc⟩,fun b cur e fz h=>⟨cur,fz,h,rfl⟩⟩
 have hne:lev≠L:=fun e=>by subst e;omega
 simp only[Gh.order,hne,if_false,and_self,and_true]
 exact h
mutual
theorem lc {m:List Nat}{nl:Nat}(h0:G.n L=0): ∀{x y:LV} {v:Value},eB m x=some y→LVR G w L nl x v→LVR (G.order L m) w L m.length y v∧(∀b,aH y v b↔aH x v b)∧(oX x=false→oX y=false)
 | .cv c,y,v,hr,h=>by
  simp only[eB,Option.some.injEq]at hr
  subst hr
  refine⟨?_,fun b=>Iff.rfl,fun _=>by simp⟩
  simp only[LVR]at h ⊢
  exact bi (wI m h0) c v h
 | .osl xs,y,v,hr,h=>by
  simp only[eB,Option.some.injEq]at hr
  subst hr
  refine⟨?_,fun b=>Iff.rfl,fun h=>h⟩
  simp only[LVR]at h ⊢
  exact kn (wI m h0) (fun _ _ _ _=>⟨rfl,rfl⟩) h
 | .ost xs,y,v,hr,h=>by
  simp only[eB,Option.some.injEq]at hr
  subst hr
  refine⟨?_,fun b=>Iff.rfl,fun h=>h⟩
  simp only[LVR]at h ⊢
  exact sG (fun _ _ _ _=>⟨rfl,rfl⟩) h
 | .stl n,y,v,hr,h=>by
  simp only[eB,Option.some.injEq]at hr
  subst hr
  exact⟨by simpa[LVR]using h,fun b=>Iff.rfl,fun h=>h⟩
 | .loc i off,y,v,hr,h=>by
  simp only[eB]at hr
  obtain⟨j,hj,hr⟩:=ac.1 hr
  simp only[Option.some.injEq]at hr
  subst hr
  obtain⟨_,hm⟩:=kN hj
  simp only[Nat.sub_zero]at hm
  have hlt:j<m.length:=(List.getElem?_eq_some_iff.1 hm).1
  have hgd:m.getD j 0=i:=by rw[List.getD_eq_getElem?_getD,hm];rfl
  simp only[LVR]at h ⊢
  exact⟨⟨hlt,by simp only[Gh.order,if_true,hgd];exact h.2⟩,fun b=>by simp[aH],fun _=>by simp⟩
 | .lsl i off len,y,v,hr,h=>by
  simp only[eB]at hr
  obtain⟨j,hj,hr⟩:=ac.1 hr
  simp only[Option.some.injEq]at hr
  subst hr
  obtain⟨_,hm⟩:=kN hj
  simp only[Nat.sub_zero]at hm
  have hlt:j<m.length:=(List.getElem?_eq_some_iff.1 hm).1
  have hgd:m.getD j 0=i:=by rw[List.getD_eq_getElem?_getD,hm];rfl
  simp only[LVR]at h ⊢
  refine⟨⟨hlt,?_⟩,fun b=>by simp[aH],fun _=>by simp⟩
  simp only[Gh.order,if_true,hgd]
  exact h.2
 | .lclo f caps,y,v,hr,h=>by
  simp only[eB]at hr
  obtain⟨l,hl,hr⟩:=ac.1 hr
  simp only[Option.some.injEq]at hr
  subst hr
  simp only[LVR]at h ⊢
  obtain⟨vs,e,hv⟩:=h
  exact⟨⟨vs,e,px h0 hl hv⟩,fun b=>by simp[aH],fun _=>by simp⟩
 | .ltup xs,y,v,hr,h=>by
  simp only[eB]at hr
  obtain⟨l,hl,hr⟩:=ac.1 hr
  simp only[Option.some.injEq]at hr
  subst hr
  simp only[LVR]at h ⊢
  obtain⟨vs,e,hv⟩:=h
  exact⟨⟨vs,e,px h0 hl hv⟩,fun b=>by simp[aH],fun _=>by simp⟩
 | .mloc i,y,v,hr,h=>by
  simp only[eB]at hr
  obtain⟨j,hj,hr⟩:=ac.1 hr
  simp only[Option.some.injEq]at hr
  subst hr
  obtain⟨_,hm⟩:=kN hj
  simp only[Nat.sub_zero]at hm
  have hlt:j<m.length:=(List.getElem?_eq_some_iff.1 hm).1
  have hgd:m.getD j 0=i:=by rw[List.getD_eq_getElem?_getD,hm];rfl
  simp only[LVR]at h ⊢
  exact⟨⟨hlt,by simp only[Gh.order,if_true,hgd];exact h.2⟩,fun b=>by simp[aH],fun _=>by simp⟩
 | .tloc i t n,y,v,hr,h=>by
  simp only[eB]at hr
  obtain⟨j,hj,hr⟩:=ac.1 hr
  simp only[Option.some.injEq]at hr
  subst hr
  obtain⟨_,hm⟩:=kN hj
  simp only[Nat.sub_zero]at hm
  have hlt:j<m.length:=(List.getElem?_eq_some_iff.1 hm).1
  have hgd:m.getD j 0=i:=by rw[List.getD_eq_getElem?_getD,hm];rfl
  simp only[LVR]at h ⊢
  exact⟨⟨hlt,by simp only[Gh.order,if_true,hgd];exact h.2⟩,fun b=>by simp[aH],fun _=>by simp⟩
theorem px {m:List Nat}{nl:Nat}(h0:G.n L=0): ∀{xs ys:List LV} {vs:List Value},eh m xs=some ys→bT G w L nl xs vs→bT (G.order L m) w L m.length ys vs
 |[],ys,vs,hr,h=>by
  simp only[eh,Option.some.injEq]at hr
  subst hr
  simpa[bT]using h
 |x::xs,ys,vs,hr,h=>by
  simp only[eh]at hr
  obtain⟨y,h1,hr⟩:=ac.1 hr
  obtain⟨l,h2,hr⟩:=ac.1 hr
  simp only[Option.some.injEq]at hr
  subst hr
  simp only[bT]at h ⊢
  obtain⟨v,vr,e,h3,h4,h5⟩:=h
  obtain⟨k1,k2,k3⟩:=lc h0 h1 h4
  exact⟨v,vr,e,k3 h3,k1,px h0 h2 h5⟩
end
theorem pw {m:List Nat}: ∀{xs ys:List LV},eh m xs=some ys→ys.length=xs.length∧ ∀(j:Nat) y,ys[j]? =some y→ ∃x,xs[j]? =some x∧eB m x=some y
 |[],ys,h=>by simp only[eh,Option.some.injEq]at h;subst h;exact⟨rfl,fun j y hy=>by simp at hy⟩
 |x::xs,ys,h=>by
  simp only[eh]at h
  obtain⟨y,h1,h⟩:=ac.1 h
  obtain⟨r,h2,h⟩:=ac.1 h
  simp only[Option.some.injEq]at h
  subst h
  obtain⟨h3,h4⟩:=pw h2
  refine⟨by simp[h3],fun j z hz=> ?_⟩
  cases j with
  |zero=>simp only[List.getElem?_cons_zero,Option.some.injEq]at hz;subst hz;exact⟨x,rfl,h1⟩
  |succ j=>exact h4 j z (by simpa using hz)
inductive ObRen (m:List Nat):Ob→Ob→Prop where
 |dead:ObRen m .dead .dead
 |arr {sz cs}:ObRen m (.arr sz cs) (.arr sz cs)
 |map {ks vs}:ObRen m (.map ks vs) (.map ks vs)
 |cells {cs ds}:eh m cs=some ds→ObRen m (.cells cs) (.cells ds)
theorem ip {m:List Nat}: ∀{l l':List Ob},dZ m l=some l'→l'.length=l.length∧ ∀i,ObRen m (aG l i) (aG l' i)
 |[],l',h=>by simp only[dZ,Option.some.injEq]at h;subst h;exact⟨rfl,fun i=>by simp only[aG,List.getElem?_nil];exact .dead⟩
 | .dead::l,l',h=>by
  simp only[dZ]at h
  obtain⟨r,h1,h⟩:=ac.1 h
  simp only[Option.some.injEq]at h
  subst h
  obtain⟨h2,h3⟩:=ip h1
  refine⟨by simp[h2],fun i=> ?_⟩
  cases i with
  |zero=>exact .dead
  |succ i=>exact h3 i
 | .arr sz cs::l,l',h=>by
  simp only[dZ]at h
  obtain⟨r,h1,h⟩:=ac.1 h
  simp only[Option.some.injEq]at h
  subst h
  obtain⟨h2,h3⟩:=ip h1
  refine⟨by simp[h2],fun i=> ?_⟩
  cases i with
  |zero=>exact .arr
  |succ i=>exact h3 i
 | .map ks vs::l,l',h=>by
  simp only[dZ]at h
  obtain⟨r,h1,h⟩:=ac.1 h
  simp only[Option.some.injEq]at h
  subst h
  obtain⟨h2,h3⟩:=ip h1
  refine⟨by simp[h2],fun i=> ?_⟩
  cases i with
  |zero=>exact .map
  |succ i=>exact h3 i
 | .cells cs::l,l',h=>by
  simp only[dZ]at h
  obtain⟨ds,h0,h⟩:=ac.1 h
  obtain⟨r,h1,h⟩:=ac.1 h
  simp only[Option.some.injEq]at h
  subst h
  obtain⟨h2,h3⟩:=ip h1
  refine⟨by simp[h2],fun i=> ?_⟩
  cases i with
  |zero=>exact .cells h0
  |succ i=>exact h3 i
theorem ObRen.live {m:List Nat}{o o':Ob}(h:ObRen m o o'):aK o'↔aK o:=by cases h<;>exact Iff.rfl
theorem OJ {m:List Nat}{l:Lam}{j:Nat}(h:aK (aG (m.map (aG l)) j)):j<m.length∧aG (m.map (aG l)) j=aG l (m.getD j 0):=by
 have hj:=ia h
 simp only[List.length_map]at hj
 refine⟨hj,?_⟩
 have e:(m.map (aG l))[j]? =some (aG l (m.getD j 0)):=by
  rw[List.getElem?_map,List.getElem?_eq_getElem hj,List.getD_eq_getElem?_getD,List.getElem?_eq_getElem hj]
  rfl
 simp only[aG,e]
theorem Rel.reorder (R:Rel G L s μ tm w)(hp:s.pushed=false){m:List Nat}(hm:m.Nodup){fr':Fr}{l':Lam}(hf: ∀t,eB m (s.fr t)=some (fr' t))(hl:dZ m (m.map (aG s.lam))=some l'):
  Rel (G.order L m) L {fr:=fr',lam:=l',pushed:=false} μ tm w∧Ext L (aB G w s μ tm) G w (G.order L m) w (aB (G.order L m) w {fr:=fr',lam:=l',pushed:=false} μ tm):=by
 have hμ:=R.lev
 have h0:G.n L=0:=by have:=R.nL;rw[hp]at this;simpa using this
 have hle:Le G w (G.order L m) w:=wI m h0
 obtain⟨hll,hlg⟩:=ip hl
 have hll':l'.length=m.length:=by rw[hll];simp
 have eL: ∀i,aE (μ++[s.lam]) L i=aG s.lam i:=fun i=>by rw[←hμ];exact br
 have eL': ∀i,aE (μ++[l']) L i=aG l' i:=fun i=>by rw[←hμ];exact br
 have hβ: ∀lev i,lev≠L→(G.order L m).β lev i=G.β lev i:=fun lev i h=>by simp[Gh.order,h]
 have hβL: ∀j,(G.order L m).β L j=G.β L (m.getD j 0):=fun j=>by simp[Gh.order]
 have hlv: ∀j,aK (aG l' j)→j<m.length∧aK (aG s.lam (m.getD j 0))∧ObRen m (aG s.lam (m.getD j 0)) (aG l' j):=by
  intro j h
  have h1:=(hlg j).live.1 h
  obtain⟨h2,h3⟩:=OJ h1
  have h4:=hlg j
  rw[h3]at h1 h4
  exact⟨h2,h1,h4⟩
 have hlive: ∀lev i,aK (aE (μ++[l']) lev i)→(lev<L∧aE (μ++[l']) lev i=aE (μ++[s.lam]) lev i∧(G.order L m).β lev i=G.β lev i∧aK (aE (μ++[s.lam]) lev i))∨
   (lev=L∧i<m.length∧aK (aE (μ++[s.lam]) L (m.getD i 0))∧(G.order L m).β lev i=G.β L (m.getD i 0)∧ObRen m (aG s.lam (m.getD i 0)) (aG l' i)):=by
  intro lev i h
  rcases cG (s:={fr:=fr',lam:=l',pushed:=false}) hμ h with⟨h1,h2⟩|⟨rfl,h1,h2⟩
  ·have e:aE (μ++[l']) lev i=aE (μ++[s.lam]) lev i:=by rw[aE,aE,ba (by omega),ba (by omega)]
   exact .inl ⟨h1,e,hβ lev i (by omega),by rw[←e];exact h⟩
  ·have h':aK (aG l' i):=by rw[←eL'];exact h
   obtain⟨a1,a2,a3⟩:=hlv i h'
   exact .inr ⟨rfl,a1,by rw[eL];exact a2,hβL i,a3⟩
 have hown: ∀q b,ay (G.order L m) w fr' tm (μ++[l']) q b→(∃t,q= .fr t∧ay G w s.fr tm (μ++[s.lam]) q b)∨(∃lev i k,q= .ob lev i k∧lev<L∧ay G w s.fr tm (μ++[s.lam]) q b)∨
   (∃i k,q= .ob L i k∧i<m.length∧ay G w s.fr tm (μ++[s.lam]) (.ob L (m.getD i 0) k) b):=by
  intro q b h
  cases q with
  |fr t=>exact .inl ⟨t,rfl,((lc h0 (hf t) (R.fr t)).2.1 b).1 h⟩
  |ob lev i k=>
   have hl':=fo h
   rcases hlive lev i hl' with⟨h1,h2,h3,_⟩|⟨rfl,h1,h2,h3,h4⟩
   ·exact .inr (.inl ⟨lev,i,k,rfl,h1,fp (fr':=fr') (tm':=tm) h2 h3 rfl h⟩)
   ·refine .inr (.inr ⟨i,k,rfl,h1,?_⟩)
    simp only[ay,eL',h3]at h
    split at h<;>try(exact h.elim)
    rename_i ds hds
    split at h<;>try(exact h.elim)
    rename_i y hy
    obtain⟨cur,e',fz,hb,ho⟩:=h
    rw[hds]at h4
    generalize hq:aG s.lam (m.getD i 0)=q at h4
    cases h4 with
    |cells hr=>
     obtain⟨_,hg⟩:=pw hr
     obtain⟨x,hx,hxy⟩:=hg k y hy
     have hob:=R.lam (m.getD i 0)
     rw[hq]at hob
     simp only[ObR]at hob
     obtain⟨cur2,e2,fz2,hb2,_,_,_,hrr⟩:=hob
     rw[hb2]at hb
     obtain⟨rfl,rfl,rfl⟩:=(Obj.cells.injEq ..).mp (Option.some.inj hb)
     simp only[ay,eL,hq,hx]
     exact⟨cur2,e2,fz2,hb2,((lc h0 hxy (hrr k x hx)).2.1 b).1 ho⟩
 have hget: ∀{i j:Nat},i<m.length→j<m.length→m.getD i 0=m.getD j 0→i=j:=by
  intro i j hi hj e
  rw[List.getD_eq_getElem?_getD,List.getD_eq_getElem?_getD,List.getElem?_eq_getElem hi,List.getElem?_eq_getElem hj]at e
  exact(List.getElem_inj hm).1 (by simpa using e)
 have hsz: ∀j,(G.order L m).sz L j=G.sz L (m.getD j 0):=fun j=>by simp[Gh.order]
 refine⟨⟨hμ,fun t=> ?_,fun i=> ?_,fun lev i hlt=> ?_,fun lev i lev' i' h h' e=> ?_,fun q q' b h h'=> ?_,fun q b lev i h h' e=> ?_,R.nlt,?_,R.ngt⟩,⟨hle,rfl,rfl,rfl,Nat.le_refl _,fun _ _ _=>⟨rfl,rfl⟩,fun b hb=> .inl ?_,fun l hlt=>⟨fun i=> ?_,rfl⟩⟩⟩
 ·simp only[hll']
  exact(lc h0 (hf t) (R.fr t)).1
 ·simp only[hll',hβL,hsz]
  by_cases hd:aK (aG l' i)
  ·obtain⟨_,_,hr⟩:=hlv i hd
   have hob:=R.lam (m.getD i 0)
   revert hob hr
   generalize aG s.lam (m.getD i 0)=q
   generalize aG l' i=q'
   intro hr hob
   cases hr with
   |dead=>trivial
   |arr=>
    simp only[ObR]at hob ⊢
    obtain⟨hk,cur,e,fz,h1,h2,h3,h4,h5⟩:=hob
    exact⟨hk,cur,e,fz,h1,h2,h3,h4,fun j x hx=>bi hle x _ (h5 j x hx)⟩
   |map=>
    simp only[ObR]at hob ⊢
    obtain⟨es,clk,h1,h2,h3⟩:=hob
    exact⟨es,clk,h1,h2,me hle h3⟩
   |cells hrr=>
    obtain⟨hln,hg⟩:=pw hrr
    simp only[ObR]at hob ⊢
    obtain⟨cur,e,fz,h1,h2,h3,h4,h5⟩:=hob
    refine⟨cur,e,fz,h1,h2,h3,by rw[hln];exact h4,fun j y hy=> ?_⟩
    obtain⟨x,hx,hxy⟩:=hg j y hy
    exact(lc h0 hxy (h5 j x hx)).1
  ·generalize hq:aG l' i=q at hd
   cases q with
   |dead=>trivial
   |cells=>exact absurd trivial hd
   |arr=>exact absurd trivial hd
   |map=>exact absurd trivial hd
 ·have hne:lev≠L:=by omega
  rw[hβ lev i hne,show (G.order L m).sz lev i=G.sz lev i by simp[Gh.order,hne]]
  exact ci (hle.below lev) (Nat.le_refl _) (fun _ h=>by omega) (fun _=>⟨rfl,rfl⟩) (fun _ _ _ _ _ _ _ _ _ _ _=>⟨rfl,rfl⟩) (R.mu lev i hlt)
 ·rcases hlive lev i h with⟨h1,_,h3,h4⟩|⟨rfl,h1,h2,h3,_⟩<;>rcases hlive lev' i' h' with⟨h1',_,h3',h4'⟩|⟨rfl,h1',h2',h3',_⟩
  ·rw[h3,h3']at e;exact R.inj lev i lev' i' h4 h4' e
  ·rw[h3,h3']at e;have:=(R.inj _ _ _ _ h4 h2' e).1;omega
  ·rw[h3,h3']at e;have:=(R.inj _ _ _ _ h2 h4' e).1;omega
  ·rw[h3,h3']at e
   exact⟨rfl,hget h1 h1' (R.inj _ _ _ _ h2 h2' e).2⟩
 ·rcases hown q b h with⟨t,rfl,h1⟩|⟨lev,i,k,rfl,hlt,h1⟩|⟨i,k,rfl,hi,h1⟩<;>rcases hown q' b h' with⟨t',rfl,h1'⟩|⟨lev',i',k',rfl,hlt',h1'⟩|⟨i',k',rfl,hi',h1'⟩
  ·exact R.own _ _ b h1 h1'
  ·exact R.own _ _ b h1 h1'
  ·have:=R.own _ _ b h1 h1';cases this
  ·exact R.own _ _ b h1 h1'
  ·exact R.own _ _ b h1 h1'
  ·have:=R.own _ _ b h1 h1';injection this with a1 a2 a3;omega
  ·have:=R.own _ _ b h1 h1';cases this
  ·have:=R.own _ _ b h1 h1';injection this with a1 a2 a3;omega
  ·have:=R.own _ _ b h1 h1'
   injection this with a1 a2 a3
   rw[hget hi hi' a2,a3]
 ·have hlv': ∃lev2 i2,aK (aE (μ++[s.lam]) lev2 i2)∧G.β lev2 i2=b:=by
   rcases hlive lev i h' with⟨h1,_,h3,h4⟩|⟨rfl,h1,h2,h3,_⟩
   ·exact⟨lev,i,h4,by rw[←h3];exact e⟩
   ·exact⟨_,_,h2,by rw[←h3];exact e⟩
  obtain⟨lev2,i2,h2,e2⟩:=hlv'
  rcases hown q b h with⟨t,rfl,h1⟩|⟨lev,i,k,rfl,hlt,h1⟩|⟨i,k,rfl,hi,h1⟩
  ·exact R.apart _ b lev2 i2 h1 h2 e2
  ·exact R.apart _ b lev2 i2 h1 h2 e2
  ·exact R.apart _ b lev2 i2 h1 h2 e2
 ·simp only[Bool.false_eq_true,if_false]
  exact h0
 ·rcases hb with⟨q,hb⟩|⟨lev,i,hb,e⟩
  ·rcases hown q b hb with⟨t,rfl,h1⟩|⟨lev,i,k,rfl,hlt,h1⟩|⟨i,k,rfl,hi,h1⟩
   ·exact .inl ⟨_,h1⟩
   ·exact .inl ⟨_,h1⟩
   ·exact .inl ⟨_,h1⟩
  ·rcases hlive lev i hb with⟨h1,_,h3,h4⟩|⟨rfl,h1,h2,h3,_⟩
   ·exact .inr ⟨lev,i,h4,by rw[←h3];exact e⟩
   ·exact .inr ⟨_,_,h2,by rw[←h3];exact e⟩
 ·have hne:l≠L:=by omega
  simp[Gh.order,hne]
theorem O8 {mo nl:Nat}{x y:LV}{v:Value}(h:Cd mo x=some y)(hx:LVR G w L nl x v):LVR G w L nl y v∧ ∀b,aH y v b→aH x v b:=by
 unfold Cd at h
 split at h
 ·simp only[Option.some.injEq]at h
  subst h
  exact⟨jV hx,fun b hb=>absurd hb i8⟩
 ·obtain⟨xs,h1,h2⟩:=ac.1 h
  simp only[Option.some.injEq]at h2
  subst h2
  exact jh h1 hx
 ·obtain⟨xs,h1,h2⟩:=ac.1 h
  simp only[Option.some.injEq]at h2
  subst h2
  exact yE h1 hx
 ·obtain⟨xs,h1,h2⟩:=ac.1 h
  simp only[Option.some.injEq]at h2
  subst h2
  exact⟨by simp only[LVR];exact fm h1 hx,fun b hb=>by simp[aH]at hb⟩
theorem D8 {fr:Fr}: ∀{live:List (Nat×Nat)} {vs:List LV},uo fr live=some vs→ ∀t,dR (jv (live.map Prod.fst) vs) t= .cv .undef∨ ∃mo y,Cd mo (fr t)=some y∧dR (jv (live.map Prod.fst) vs) t=y
 |[],vs,h,t=>by simp only[uo,Option.some.injEq]at h;subst h;exact .inl rfl
 |q::r,vs,h,t=>by
  simp only[uo]at h
  obtain⟨v,h1,h⟩:=ac.1 h
  obtain⟨l,h2,h⟩:=ac.1 h
  simp only[Option.some.injEq]at h
  subst h
  simp only[List.map_cons,jv,dR]
  split
  ·rename_i e
   have:=Nat.eq_of_beq_eq_true e
   subst this
   exact .inr ⟨q.2,v,h1,rfl⟩
  ·exact D8 h2 t
theorem zr {m:List Nat}: ∀{ts:List Nat} {vs us:List LV},eh m vs=some us→ ∀t,eB m (dR (jv ts vs) t)=some (dR (jv ts us) t)
 |[],vs,us,h,t=>by simp[jv,dR,eB]
 |u::ts,[],us,h,t=>by simp only[eh,Option.some.injEq]at h;subst h;simp[jv,dR,eB]
 |u::ts,v::vs,us,h,t=>by
  simp only[eh]at h
  obtain⟨y,h1,h⟩:=ac.1 h
  obtain⟨l,h2,h⟩:=ac.1 h
  simp only[Option.some.injEq]at h
  subst h
  simp only[jv,dR]
  split
  ·exact h1
  ·exact zr h2 t
theorem Rel.weaken (R:Rel G L s μ tm w){i:Nat}{cs cs':List LV}(ho:aG s.lam i= .cells cs)(hl:cs'.length=cs.length)
  (hc: ∀(k:Nat) x',cs'[k]? =some x'→ ∃x,cs[k]? =some x∧ ∀v,LVR G w L s.lam.length x v→LVR G w L s.lam.length x' v∧ ∀b,aH x' v b→aH x v b):
  Rel G L {s with lam:=s.lam.set i (.cells cs')} μ tm w∧Ext L (aB G w s μ tm) G w G w (aB G w {s with lam:=s.lam.set i (.cells cs')} μ tm):=by
 have hμ:=R.lev
 have hi:i<s.lam.length:=ia (by rw[ho];trivial)
 have eL: ∀(l:Lam) j,aE (μ++[l]) L j=aG l j:=fun l j=>by rw[←hμ];exact br
 have hlam: ∀j,aG (s.lam.set i (.cells cs')) j=if j=i then .cells cs' else aG s.lam j:=by
  intro j
  simp only[aG]
  by_cases e:j=i
  ·subst e;rw[List.getElem?_set_self hi];simp
  ·rw[List.getElem?_set_ne (by omega)];simp[e]
 have hlt: ∀lev j,lev<L→aE (μ++[s.lam.set i (.cells cs')]) lev j=aE (μ++[s.lam]) lev j:=fun lev j h=>by rw[aE,aE,ba (by omega),ba (by omega)]
 have hgt: ∀(l:Lam) lev j,L<lev→aE (μ++[l]) lev j= .dead:=fun l lev j h=>by rw[aE,jl (by omega)]
 have hlive: ∀lev j,aK (aE (μ++[s.lam.set i (.cells cs')]) lev j)→aK (aE (μ++[s.lam]) lev j):=by
  intro lev j h
  rcases Nat.lt_trichotomy lev L with h1|h1|h1
  ·rw[hlt lev j h1]at h;exact h
  ·subst h1
   rw[eL,hlam]at h
   rw[eL]
   split at h
   ·rename_i e;rw[e,ho];trivial
   ·exact h
  ·rw[hgt _ lev j h1]at h;exact h.elim
 have hob:=R.lam i
 rw[ho]at hob
 simp only[ObR]at hob
 obtain⟨cur,e,fz,h1,h2,h3,h4,h5⟩:=hob
 have hown: ∀q b,ay G w s.fr tm (μ++[s.lam.set i (.cells cs')]) q b→ay G w s.fr tm (μ++[s.lam]) q b:=by
  intro q b h
  cases q with
  |fr t=>exact h
  |ob lev j k=>
   simp only[ay]at h ⊢
   rcases Nat.lt_trichotomy lev L with h6|h6|h6
   ·rw[hlt lev j h6]at h;exact h
   ·subst h6
    rw[eL,hlam]at h
    rw[eL]
    by_cases ej:j=i
    ·subst ej
     simp only[if_true]at h
     split at h<;>try(exact h.elim)
     rename_i x' hx'
     obtain⟨x,hx,hv⟩:=hc k x' hx'
     obtain⟨cur2,e2,fz2,hb2,ho2⟩:=h
     rw[h1]at hb2
     obtain⟨rfl,rfl,rfl⟩:=(Obj.cells.injEq ..).mp (Option.some.inj hb2)
     rw[ho]
     simp only[hx]
     exact⟨cur,e,fz,h1,(hv _ (h5 k x hx)).2 b ho2⟩
    ·rw[if_neg ej]at h;exact h
   ·rw[hgt _ lev j h6]at h;exact h.elim
 refine⟨⟨hμ,fun t=> ?_,fun j=> ?_,R.mu,fun lev j lev' j' h h'=>R.inj lev j lev' j' (hlive lev j h) (hlive lev' j' h'),fun q q' b h h'=>R.own q q' b (hown q b h) (hown q' b h'),fun q b lev j h h'=>R.apart q b lev j (hown q b h) (hlive lev j h'),R.nlt,?_,R.ngt⟩,Ext.refl G w fun b hb=> ?_⟩
 ·simp only[List.length_set];exact R.fr t
 ·simp only[List.length_set]
  rw[hlam]
  split
  ·rename_i ej
   subst ej
   simp only[ObR]
   refine⟨cur,e,fz,h1,h2,h3,by rw[hl];exact h4,fun k x' hx'=> ?_⟩
   obtain⟨x,hx,hv⟩:=hc k x' hx'
   exact(hv _ (h5 k x hx)).1
  ·exact R.lam j
 ·simp only[List.length_set];exact R.nL
 ·rcases hb with⟨q,hb⟩|⟨lev,j,hb,e⟩
  ·exact .inl ⟨q,hown q b hb⟩
  ·exact .inr ⟨lev,j,hlive lev j hb,e⟩
theorem t6 {α:Type}{nl:Nat}: ∀{ms:List Nat} {cs:List LV} {k:List LV→Option α} {r:α},gF ms cs k=some r→
  ∃cs',k cs'=some r∧cs'.length=cs.length∧ ∀(j:Nat) x',cs'[j]? =some x'→ ∃x,cs[j]? =some x∧ ∀v,LVR G w L nl x v→LVR G w L nl x' v∧ ∀b,aH x' v b→aH x v b
 |[],cs,k,r,h=>⟨cs,h,rfl,fun j x hx=>⟨x,hx,fun v hv=>⟨hv,fun _ hb=>hb⟩⟩⟩
 |m::ms,[],k,r,h=>by simp[gF]at h
 |m::ms,c::cs,k,r,h=>by
  simp only[gF,B8]at h
  have key: ∀c',(gF ms cs fun r=>k (c'::r))=some r→(∀v,LVR G w L nl c v→LVR G w L nl c' v∧ ∀b,aH c' v b→aH c v b)→
    ∃cs',k cs'=some r∧cs'.length=(c::cs).length∧ ∀(j:Nat) x',cs'[j]? =some x'→ ∃x,(c::cs)[j]? =some x∧ ∀v,LVR G w L nl x v→LVR G w L nl x' v∧ ∀b,aH x' v b→aH x v b:=by
   intro c' h hc
   obtain⟨cs',h1,h2,h3⟩:=t6 h
   refine⟨c'::cs',h1,by simp[h2],fun j x' hx'=> ?_⟩
   cases j with
   |zero=>simp only[List.getElem?_cons_zero,Option.some.injEq]at hx';subst hx';exact⟨c,rfl,hc⟩
   |succ j=>exact h3 j x' (by simpa using hx')
  split at h
  ·exact key c h fun v hv=>⟨hv,fun _ hb=>hb⟩
  ·obtain⟨xs,h1,h2⟩:=ac.1 h
   exact key _ h2 fun v hv=>jh h1 hv
  ·obtain⟨x,h1,h2⟩:=ac.1 h
   exact key _ h2 fun v hv=>⟨by simp only[LVR];exact ew h1 hv,fun b hb=>by simp[aH]at hb⟩
  ·obtain⟨xs,h1,h2⟩:=ac.1 h
   exact key _ h2 fun v hv=>⟨by simp only[LVR];exact fm h1 hv,fun b hb=>by simp[aH]at hb⟩
theorem Rel.setPushed (R:Rel G L s μ tm w):Rel (G.push L s.lam.length) L {s with pushed:=true} μ tm w∧
  Ext L (aB G w s μ tm) G w (G.push L s.lam.length) w (aB (G.push L s.lam.length) w {s with pushed:=true} μ tm):=by
 have hle:Le G w (G.push L s.lam.length) w:=ll fun i h=>by
  have:=R.nL
  cases hp:s.pushed<;>simp[hp]at this<;>omega
 have hbel: ∀lev,lev<L→(G.push L s.lam.length).below lev=G.below lev:=by
  intro lev h
  simp only[Gh.below,Gh.push,Gh.mk.injEq,true_and,and_true]
  funext l
  by_cases hl:l≤lev
  ·simp only[hl,if_true]
   rw[if_neg (by omega)]
  ·simp only[hl,if_false]
 have hO: ∀q b,ay (G.push L s.lam.length) w s.fr tm (μ++[s.lam]) q b→ay G w s.fr tm (μ++[s.lam]) q b:=by
  intro q b h
  cases q<;>exact h
 refine ⟨⟨R.lev, fun t => cZ hle (Nat.le_refl _) (fun i _ => ⟨rfl, rfl⟩) _ _ (fun b _ => ⟨rfl, rfl⟩) (R.fr t), fun i => ?_, fun lev i h => ?_, R.inj,
  fun q q' b h h'=>R.own q q' b (hO q b h) (hO q' b h'),fun q b lev i h h'=>R.apart q b lev i (hO q b h) h',fun lev h=> ?_,?_,fun lev h=> ?_⟩,?_⟩
 ·exact ci hle (Nat.le_refl _) (fun i _=>⟨rfl,rfl⟩) (fun _=>⟨rfl,rfl⟩) (fun _ _ _ _ _ _ _ _ _ _ _=>⟨rfl,rfl⟩) (R.lam i)
 ·rw[hbel lev h];exact R.mu lev i h
 ·simp only[Gh.push];rw[if_neg (by omega)];exact R.nlt lev h
 ·simp[Gh.push]
 ·simp only[Gh.push];rw[if_neg (by omega)];exact R.ngt lev h
 ·refine⟨hle,rfl,rfl,rfl,Nat.le_refl _,fun _ _ _=>⟨rfl,rfl⟩,fun b hb=> .inl ?_,fun l hl=>⟨fun _=>⟨rfl,rfl⟩,?_⟩⟩
  ·rcases hb with⟨q,hb⟩|hb
   ·exact .inl ⟨q,hO q b hb⟩
   ·exact .inr hb
  ·simp only[Gh.push];rw[if_neg (by omega)]
theorem k8 {α:Type}: ∀{obs:List (Nat×List Nat)} {G:Gh} {s:S} {k:S→Option α} {r:α},lI obs s k=some r→Rel G L s μ tm w→
  ∃s' G',k s'=some r∧Rel G' L s' μ tm w∧Ext L (aB G w s μ tm) G w G' w (aB G' w s' μ tm)
 |[],G,s,k,r,h,R=>⟨s,G,h,R,Ext.refl G w fun _ hb=>hb⟩
 |q::l,G,s,k,r,h,R=>by
  simp only[lI]at h
  split at h
  ·obtain⟨R1,E1⟩:=R.setPushed
   obtain⟨s',G',h4,R2,E2⟩:=k8 h R1
   exact⟨s',G',h4,R2,E1.trans E2⟩
  split at h<;>try(simp at h;done)
  rename_i cs ho
  obtain⟨cs',h1,h2,h3⟩:=t6 (G:=G) (w:=w) (L:=L) (nl:=s.lam.length) h
  obtain⟨R1,E1⟩:=R.weaken ho h2 h3
  obtain⟨s',G',h4,R2,E2⟩:=k8 h1 R1
  exact⟨s',G',h4,R2,E1.trans E2⟩
theorem dO {α:Type}{live:List (Nat×Nat)}{k:S→Option α}{r:α}(h:dM live s k=some r)(R:Rel G L s μ tm w):
  ∃s' G',k s'=some r∧Rel G' L s' μ tm w∧Ext L (aB G w s μ tm) G w G' w (aB G' w s' μ tm):=by
 unfold dM at h
 obtain⟨vs,h1,h⟩:=ac.1 h
 obtain⟨R1,hO⟩:=R.refr (fr':=dR (jv (live.map Prod.fst) vs)) fun t=>by
  rcases D8 h1 t with e|⟨mo,y,h2,e⟩
  ·rw[e];exact⟨by simp[LVR,VR],fun b hb=>by simp[aH]at hb⟩
  ·rw[e];exact O8 h2 (R.fr t)
 have E1:Ext L (aB G w s μ tm) G w G w (aB G w {s with fr:=dR (jv (live.map Prod.fst) vs)} μ tm):=Ext.refl G w fun b hb=>by
  rcases hb with⟨l,hb⟩|hb
  ·exact .inl ⟨l,hO l b hb⟩
  ·exact .inr hb
 split at h
 ·exact⟨_,G,h,R1,E1⟩
 ·rename_i hp
  obtain⟨us,h2,h⟩:=ac.1 h
  obtain⟨l,h3,h⟩:=ac.1 h
  obtain⟨R2,E2⟩:=R1.reorder hp (ma _ _ _ _ (by simp)) (zr h2) h3
  exact⟨_,_,h,R2,E1.trans E2⟩
theorem lM {x y:Bool}(h:(match x with|true=>y|false=>false)=true):x=true∧y=true:=by
 cases x<;>simp_all
theorem yv {m:Nat}:Le (G.cut L) w ((G.cut L).push L m) w:=ll fun i h=>by simp[Gh.cut]at h
theorem Qt {m:Nat}(hg: ∀lev,L<lev→G.n lev=0){c:CV}{v:Value}(hb:zJ L m c=true)(h:VR G w c v):VR ((G.cut L).push L m) w c v:=by
 have key: ∀c:CV,below L c=true→VR G w c v→VR ((G.cut L).push L m) w c v:=fun c hb h=>bi yv _ _ (d5 c v hb h)
 cases c with
 |ref lev i off=>
  simp only[VR]at h ⊢
  refine⟨?_,h.2⟩
  simp only[Gh.push,Gh.cut]
  simp only[zJ]at hb
  split at hb
  ·rename_i hl
   have hl:lev<L:=by simpa using hl
   rw[if_neg (by omega),if_pos hl]
   exact h.1
  ·rename_i hl
   have hl: ¬lev<L:=fun h=>by rw[←Nat.blt_eq]at h;rw[h]at hl;cases hl
   have:lev=L:=by
    rcases Nat.lt_or_ge L lev with h1|h1
    ·have:=hg lev h1;omega
    ·omega
   rw[if_pos this]
   simpa using hb
 |tref lev i t n=>
  simp only[VR]at h ⊢
  refine⟨?_,h.2⟩
  simp only[Gh.push,Gh.cut]
  simp only[zJ]at hb
  split at hb
  ·rename_i hl
   have hl:lev<L:=by simpa using hl
   rw[if_neg (by omega),if_pos hl]
   exact h.1
  ·rename_i hl
   have hl: ¬lev<L:=fun h=>by rw[←Nat.blt_eq]at h;rw[h]at hl;cases hl
   have:lev=L:=by
    rcases Nat.lt_or_ge L lev with h1|h1
    ·have:=hg lev h1;omega
    ·omega
   rw[if_pos this]
   simpa using hb
 |_=>exact key _ hb h
mutual
theorem sE {m nl:Nat}(hg: ∀lev,L<lev→G.n lev=0): ∀(x:LV) (v:Value),iZ L m x=true→LVR G w L nl x v→LVR ((G.cut L).push L m) w L m x v
 | .cv c,v,hb,h=>by
  simp only[LVR]at h ⊢
  exact Qt hg hb h
 | .osl xs,v,hb,h=>by
  simp only[LVR]at h ⊢
  have:=AL (m:=L) hb h
  rcases this with h|⟨b,cap,cur,e,s,h1,h2,h3,h4,h5,h6,h7,h8,h9,h10⟩
  ·exact .inl h
  ·exact .inr ⟨b,cap,cur,e,s,h1,h2,h3,h4,h5,h6,h7,d8 yv b s 0 xs h8,h9,h10⟩
 | .ost xs,v,hb,h=>by
  simp only[LVR]at h ⊢
  exact h
 | .stl n,v,hb,h=>by simpa[LVR]using h
 | .loc i off,v,hb,h=>by
  simp only[LVR]at h ⊢
  exact⟨by simpa[iZ]using hb,h.2⟩
 | .lsl i off len,v,hb,h=>by
  simp only[LVR]at h ⊢
  exact⟨by simpa[iZ]using hb,h.2⟩
 | .mloc i,v,hb,h=>by
  simp only[LVR]at h ⊢
  exact⟨by simpa[iZ]using hb,h.2⟩
 | .tloc i t n,v,hb,h=>by
  simp only[LVR]at h ⊢
  exact⟨by simpa[iZ]using hb,h.2⟩
 | .lclo f caps,v,hb,h=>by
  simp only[LVR]at h ⊢
  obtain⟨vs,e,hl⟩:=h
  exact⟨vs,e,xZ hg caps _ (by simpa[iZ]using hb) hl⟩
 | .ltup xs,v,hb,h=>by simp[iZ]at hb
theorem xZ {m nl:Nat}(hg: ∀lev,L<lev→G.n lev=0): ∀(xs:List LV) (vs:List Value),jH L m xs=true→bT G w L nl xs vs→bT ((G.cut L).push L m) w L m xs vs
 |[],vs,hb,h=>by simpa[bT]using h
 |x::xs,vs,hb,h=>by
  simp only[bT]at h ⊢
  simp only[jH]at hb
  obtain⟨hb1,hb2⟩:=lM hb
  obtain⟨v,r,e,h0,h1,h2⟩:=h
  exact⟨v,r,e,h0,sE hg x v hb1 h1,xZ hg xs r hb2 h2⟩
end
theorem zK {m:Nat}: ∀{xs:List LV} {j:Nat} {x:LV},jH L m xs=true→xs[j]? =some x→iZ L m x=true
 |[],j,x,hb,h=>by simp at h
 |y::ys,j,x,hb,h=>by
  simp only[jH]at hb
  obtain⟨hb1,hb2⟩:=lM hb
  cases j with
  |zero=>simp only[List.getElem?_cons_zero,Option.some.injEq]at h;subst h;exact hb1
  |succ j=>exact zK hb2 (by simpa using h)
theorem yi {m:Nat}: ∀{xs:List CV} {j:Nat} {x:CV},b7 m xs=true→xs[j]? =some x→below m x=true
 |[],j,x,hb,h=>by simp at h
 |y::ys,j,x,hb,h=>by
  obtain⟨hb1,hb2⟩:=bf hb
  cases j with
  |zero=>simp only[List.getElem?_cons_zero,Option.some.injEq]at h;subst h;exact hb1
  |succ j=>exact yi hb2 (by simpa using h)
theorem u9 {m:Nat}: ∀{xs:List Ob} {j:Nat} {x:Ob},ot L m xs=true→xs[j]? =some x→AJ L m x=true
 |[],j,x,hb,h=>by simp at h
 |y::ys,j,x,hb,h=>by
  simp only[ot]at hb
  obtain⟨hb1,hb2⟩:=lM hb
  cases j with
  |zero=>simp only[List.getElem?_cons_zero,Option.some.injEq]at h;subst h;exact hb1
  |succ j=>exact u9 hb2 (by simpa using h)
theorem M9 {m nl b sz:Nat}(hg: ∀lev,L<lev→G.n lev=0){o:Ob}(hb:AJ L m o=true)(h:ObR G w L nl b sz o):ObR ((G.cut L).push L m) w L m b sz o:=by
 cases o with
 |dead=>trivial
 |cells cs=>
  simp only[ObR]at h ⊢
  obtain⟨cur,e,fz,h1,h2,h3,h4,h5⟩:=h
  exact⟨cur,e,fz,h1,h2,h3,h4,fun j x hx=>sE hg x _ (zK hb hx) (h5 j x hx)⟩
 |arr k cs=>
  simp only[ObR]at h ⊢
  obtain⟨hk,cur,e,fz,h1,h2,h3,h4,h5⟩:=h
  exact⟨hk,cur,e,fz,h1,h2,h3,h4,fun j x hx=>bi yv _ _ (d5 x _ (yi hb hx) (h5 j x hx))⟩
 |map ks vs=>
  simp only[ObR]at h ⊢
  obtain⟨es,clk,h1,h2,h3⟩:=h
  exact⟨es,clk,h1,h2,h3.1,hJ yv _ _ (pM vs _ hb h3.2)⟩
theorem Rel.trunc (R:Rel G L s μ tm w)(hp:s.pushed=true){m:Nat}(hm:m≤s.lam.length)(hf: ∀t,iZ L m (s.fr t)=true)(hl:ot L m (s.lam.take m)=true):
  Rel ((G.cut L).push L m) L {s with lam:=s.lam.take m} μ tm w∧(∀b,aB ((G.cut L).push L m) w {s with lam:=s.lam.take m} μ tm b→aB G w s μ tm b):=by
 have hμ:=R.lev
 have hlen:(s.lam.take m).length=m:=by simp;omega
 have eL: ∀(l:Lam) j,aE (μ++[l]) L j=aG l j:=fun l j=>by rw[←hμ];exact br
 have hlt: ∀lev j,lev<L→aE (μ++[s.lam.take m]) lev j=aE (μ++[s.lam]) lev j:=fun lev j h=>by rw[aE,aE,ba (by omega),ba (by omega)]
 have hgt: ∀(l:Lam) lev j,L<lev→aE (μ++[l]) lev j= .dead:=fun l lev j h=>by rw[aE,jl (by omega)]
 have hlam: ∀i,aG (s.lam.take m) i=if i<m then aG s.lam i else .dead:=by
  intro i
  by_cases h:i<m
  ·rw[if_pos h];simp only[aG,List.getElem?_take_of_lt h]
  ·rw[if_neg h];simp only[aG];rw[List.getElem?_take_eq_none (by omega)]
 have hat: ∀lev i,aE (μ++[s.lam.take m]) lev i=aE (μ++[s.lam]) lev i∨aE (μ++[s.lam.take m]) lev i= .dead:=by
  intro lev i
  rcases Nat.lt_trichotomy lev L with h|h|h
  ·exact .inl (hlt lev i h)
  ·subst h
   rw[eL,eL,hlam]
   split
   ·exact .inl rfl
   ·exact .inr rfl
  ·exact .inr (hgt _ lev i h)
 have hlive: ∀lev i,aK (aE (μ++[s.lam.take m]) lev i)→aK (aE (μ++[s.lam]) lev i):=by
  intro lev i h
  rcases hat lev i with e|e
  ·rw[←e];exact h
  ·rw[e]at h;exact h.elim
 have hown: ∀q b,ay ((G.cut L).push L m) w s.fr tm (μ++[s.lam.take m]) q b→ay G w s.fr tm (μ++[s.lam]) q b:=by
  intro q b h
  cases q with
  |fr t=>exact h
  |ob lev i k=>
   rcases hat lev i with e|e
   ·simp only[ay]at h ⊢
    rw[e]at h
    exact h
   ·simp only[ay,e]at h
 have hbel: ∀lev,lev<L→((G.cut L).push L m).below lev=G.below lev:=by
  intro lev h
  simp only[Gh.below,Gh.push,Gh.cut,Gh.mk.injEq,true_and,and_true]
  funext l
  by_cases hl:l≤lev
  ·simp only[hl,if_true]
   rw[if_neg (by omega),if_pos (by omega)]
  ·simp only[hl,if_false]
 refine ⟨⟨R.lev, fun t => ?_, fun i => ?_, fun lev i h => ?_, fun lev i lev' i' h h' e => R.inj lev i lev' i' (hlive _ _ h) (hlive _ _ h') e,
  fun q q' b h h'=>R.own q q' b (hown q b h) (hown q' b h'),fun q b lev i h h'=>R.apart q b lev i (hown q b h) (hlive _ _ h'),fun lev h=> ?_,?_,fun lev h=> ?_⟩,fun b hb=> ?_⟩
 ·show LVR _ w L (s.lam.take m).length _ _
  rw[hlen]
  exact sE R.ngt _ _ (hf t) (R.fr t)
 ·show ObR _ w L (s.lam.take m).length _ _ (aG (s.lam.take m) i)
  rw[hlen,hlam]
  split
  ·rename_i hi
   refine M9 R.ngt (u9 (j:=i) hl ?_) (R.lam i)
   rw[List.getElem?_take_of_lt hi,aG,List.getElem?_eq_getElem (by omega)]
  ·trivial
 ·rw[hbel lev h];exact R.mu lev i h
 ·simp only[Gh.push,Gh.cut];rw[if_neg (by omega),if_pos h];exact R.nlt lev h
 ·show ((G.cut L).push L m).n L=if s.pushed then(s.lam.take m).length else 0
  rw[hp,hlen];simp[Gh.push]
 ·simp only[Gh.push,Gh.cut];rw[if_neg (by omega),if_neg (by omega)]
 ·rcases hb with⟨q,hb⟩|⟨lev,i,hb,e⟩
  ·exact .inl ⟨q,hown q b hb⟩
  ·exact .inr ⟨lev,i,hlive lev i hb,e⟩
theorem zB {fr:Fr}{m:Nat}: ∀{live:List (Nat×Nat)},jH L m (zL (fP fr live))=true→ ∀t,(dR (fP fr live) t= .cv .undef∨dR (fP fr live) t=fr t)∧iZ L m (dR (fP fr live) t)=true
 |[],hb,t=>⟨.inl rfl,rfl⟩
 |q::r,hb,t=>by
  simp only[fP,zL,jH]at hb
  obtain⟨hb1,hb2⟩:=lM hb
  simp only[fP,dR]
  split
  ·rename_i e
   have:=Nat.eq_of_beq_eq_true e
   subst this
   exact⟨.inr rfl,hb1⟩
  ·exact zB hb2 t
theorem oo {α:Type}{live:List (Nat×Nat)}{k:S→Option α}{r:α}(h:jF L live s k=some r)(R:Rel G L s μ tm w){T:Nat→Prop}{G0:Gh}{w0:World}(E:Ext L T G0 w0 G w (aB G w s μ tm))(h0:G0.n L=0):
  ∃s' G',k s'=some r∧Rel G' L s' μ tm w∧Ext L T G0 w0 G' w (aB G' w s' μ tm):=by
 unfold jF at h
 split at h
 ·exact⟨s,G,h,R,E⟩
 ·rename_i m hm
  obtain⟨hc,h⟩:=aF.1 h
  simp only[Bool.and_eq_true]at hc
  obtain⟨⟨⟨hp,hlen⟩,hu⟩,ho⟩:=hc
  have hsl:=zB (fr:=s.fr) hu
  obtain⟨R1,hO⟩:=R.refr (fr':=dR (fP s.fr live)) fun t=>by
   rcases(hsl t).1 with e|e
   ·rw[e];exact⟨by simp[LVR,VR],fun b hb=>by simp[aH]at hb⟩
   ·rw[e];exact⟨R.fr t,fun _ hb=>hb⟩
  obtain⟨R2,hT⟩:=R1.trunc hp (Nat.le_of_ble_eq_true hlen) (fun t=>(hsl t).2) ho
  have e:({fr:=dR (fP s.fr live),lam:=s.lam.take m,pushed:=true}:S)={s with fr:=dR (fP s.fr live),lam:=s.lam.take m}:=by
   cases s;simp only at hp;subst hp;rfl
  rw[e]at h
  refine⟨_,_,h,R2,⟨⟨E.le.map,fun lev i hi=> ?_,E.le.imm,E.le.blk⟩,E.os,E.tape,E.output,E.size,E.keep,fun b hb=>E.grow b ?_,fun l hl=>⟨(E.lev l hl).1,?_⟩⟩⟩
  ·obtain⟨h1,h2,h3⟩:=E.le.ref lev i hi
   refine⟨?_,h2,h3⟩
   rcases Nat.lt_trichotomy lev L with hl|hl|hl
   ·simp only[Gh.push,Gh.cut];rw[if_neg (by omega),if_pos hl];exact h1
   ·subst hl;omega
   ·have:=R.ngt lev hl;omega
  ·have:=hT b hb
   rcases this with⟨q,hb⟩|hb
   ·exact .inl ⟨q,hO q b hb⟩
   ·exact .inr hb
  ·simp only[Gh.push,Gh.cut];rw[if_neg (by omega),if_pos hl];exact(E.lev l hl).2
end
end Go.Abs
set_option linter.unusedVariables false
set_option linter.unusedSimpArgs false
namespace Go.Abs
open Go
def iC (L:Nat)(T:Nat→Prop)(G:Gh)(w:World)(n:Nat)(ds:Keep)(s:S)(μ:Mu)(a:Act)(w':World)(G':Gh):Prop:=
 Rel G' L s μ a.tmps w'∧Ext L T G w G' w' (aB G' w' s μ a.tmps)∧a.tmps.size=n∧ds.at a∧G.n L=0
def StR (L:Nat)(T:Nat→Prop)(G:Gh)(w:World)(n:Nat)(ds:Keep):St→Exit→Act→World→Prop
 | .norm s μ,.normal,a,w'=> ∃G',iC L T G w n ds s μ a w' G'
 | .exit i s μ,.exit j,a,w'=>i=j∧ ∃G',iC L T G w n ds s μ a w' G'
 | .ret s μ,.ret,a,w'=> ∃G',iC L T G w n ds s μ a w' G'
 | .panic v s μ,.panic ch,a,w'=> ∃G' pv,ch=[{v:=pv,recovered:=false}]∧VR G' w' v pv∧iC L T G w n ds s μ a w' G'
 |_,_,_,_=>False
def qw (P:Program)(c:Code)(Q:Exit→Act→World→Prop)(a:Act)(w:World):Prop:=
 ∀(b:Frame) (k:List Item) (cs:List Frame),∃e a' w',Q e a' w'∧Arrives P (lone (b.at a (.code c:: .inLoop c::k)) cs w) b k cs e a' w'
def lm (P:Program)(W0:World)(ρ:Rho):Prop:= ∀H lv c s μ st,ρ.loop H lv c s μ=some st→ ∀L G w a Q T G0 w0 n (ds:Keep),dF n ds.slot c=true→Kn W0 w0 T→iC L T G0 w0 n ds s μ a w G→
 (∀e a' w',StR L T G0 w0 n ds st e a' w'→Q e a' w')→qw P c Q a w
def nA (P:Program)(W0:World)(ρ:Rho):Prop:= ∀H lv c s μ st,ρ.seg H lv c s μ=some st→ ∀L G w a Q T G0 w0 n (ds:Keep),dF n ds.slot c=true→Kn W0 w0 T→iC L T G0 w0 n ds s μ a w G→
 (∀e a' w',StR L T G0 w0 n ds st e a' w'→Q e a' w')→c.wp P Q a w
section
variable {P:Program}{W0:World}{ρ:Rho}{Q:Exit→Act→World→Prop}{a:Act}{w:World}{c:Code}
theorem qw.wp (h:qw P c Q a w):(Code.loop c).wp P Q a w:=by
 intro b k cs
 obtain⟨e,a',w',hq,harr⟩:=h b k cs
 exact⟨e,a',w',hq,.of_steps (.one step_loop) harr⟩
theorem qw.unroll (h:c.wp P (Exit.then (qw P c Q) Q) a w):qw P c Q a w:=by
 intro b k cs
 obtain⟨e,a₁,w₁,hq,harr⟩:=h b (.inLoop c::k) cs
 cases e with
 |normal=>
  obtain⟨e₂,a₂,w₂,hq₂,harr₂⟩:=hq b k cs
  exact⟨e₂,a₂,w₂,hq₂,.of_steps (Steps.trans harr (.one step_inLoop)) harr₂⟩
 |exit id=>exact⟨_,a₁,w₁,hq,.pass (x:= .inLoop c) rfl (fun _ _=> .inl (by simp)) harr⟩
 |goto l=>exact⟨_,a₁,w₁,hq,.pass (x:= .inLoop c) rfl (fun _ _=> .inl (by simp)) harr⟩
 |ret=>exact⟨_,a₁,w₁,hq,.pass (x:= .inLoop c) rfl (fun _ _=> .inl (by simp)) harr⟩
 |panic ch=>exact⟨_,a₁,w₁,hq,.pass (x:= .inLoop c) rfl (fun _ _=> .inl (by simp)) harr⟩
 |outgrown=>exact⟨_,a₁,w₁,hq,.pass (x:= .inLoop c) rfl (fun _ _=> .inl (by simp)) harr⟩
theorem dv (hm:P.follows .mixedOrders=true)(hrho:d7 P W0 ρ)(hloop:lm P W0 ρ)(hseg:nA P W0 ρ){H:Hints}: ∀(c:Code) {α:Type} {k:St→Option α} {r:α} {Q:Exit→Act→World→Prop} {L:Nat} {T:Nat→Prop} {G0 G:Gh} {w0 w:World} {n:Nat} {ds:Keep} {s:S} {μ:Mu} {a:Act},
  dF n ds.slot c=true→Kn W0 w0 T→bO P ρ H c s μ k=some r→iC L T G0 w0 n ds s μ a w G→(∀st e a' w',k st=some r→StR L T G0 w0 n ds st e a' w'→Q e a' w')→c.wp P Q a w
 | .skip,α,k,r,Q,L,T,G0,G,w0,w,n,ds,s,μ,a,hc,hkn,h,hs,hk=>by
  simp only[bO]at h
  exact wp_skip (hk _ _ _ _ h ⟨G,hs⟩)
 | .region id ops draw,α,k,r,Q,L,T,G0,G,w0,w,n,ds,s,μ,a,hc,hkn,h,hs,hk=>by
  simp only[bO]at h
  simp only[dF]at hc
  obtain⟨R,E,hn,hd,h0⟩:=hs
  split at h
  ·refine wp_region (ie (L:=L) (G0:=G0) (w0:=w0) (T:=T) (n:=n) (ds:=ds) hrho (fun i o ho d hd=>k9 hc (by simpa using ho) d hd) hkn ?_ ?_ _ h R E hn hd)
   ·intro s' μ' a' w' G' h' R' E' hn' hd'
    exact hk _ .normal a' w' h' ⟨G',R',E',hn',hd',h0⟩
   ·intro v s' μ' pv a' w' G' h' R' hv E' hn' hd'
    exact hk _ (.panic _) a' w' h' ⟨G',pv,rfl,hv,R',E',hn',hd',h0⟩
  ·obtain⟨hdr,h⟩:=aF.1 h
   refine F3 (L:=L) (G0:=G0) (w0:=w0) (T:=T) (n:=n) (ds:=ds) hrho hm hdr (fun i o ho d hd=>k9 hc (by simpa using ho) d hd) hkn ?_ h R E hn hd
   intro s' μ' a' w' G' h' R' E' hn' hd'
   exact hk _ .normal a' w' h' ⟨G',R',E',hn',hd',h0⟩
 | .seq x y,α,k,r,Q,L,T,G0,G,w0,w,n,ds,s,μ,a,hc,hkn,h,hs,hk=>by
  simp only[bO]at h
  simp only[dF]at hc
  obtain⟨hx,hy⟩:=lM hc
  refine wp_seq (dv hm hrho hloop hseg x hx hkn h hs fun st e a' w' h' hst=> ?_)
  cases st with
  |norm s' μ'=>
   cases e<;>simp only[StR]at hst
   obtain⟨G',hs'⟩:=hst
   dsimp only at h'
   split at h'
   ·exact dv hm hrho hloop hseg y hy hkn h' hs' hk
   ·obtain⟨s1,G1,h1,R1,E1⟩:=k8 h' hs'.1
    obtain⟨s2,G2,h2,R2,E2⟩:=dO h1 R1
    obtain⟨s3,G3,h2,R3,E3⟩:=oo (R2.lev▸h2) R2 (hs'.2.1.trans (E1.trans E2)) hs'.2.2.2.2
    obtain⟨st,hst,h3⟩:=ac.1 h2
    exact hseg _ _ _ _ _ _ hst L G3 w' a' Q T G0 w0 n ds hy hkn ⟨R3,E3,hs'.2.2⟩ fun e a' w' hr=>hk st e a' w' h3 hr
  |exit i s' μ'=>cases e<;>first|exact hst.elim|exact hk _ _ _ _ h' hst
  |ret s' μ'=>cases e<;>first|exact hst.elim|exact hk _ _ _ _ h' hst
  |panic v s' μ'=>cases e<;>first|exact hst.elim|exact hk _ _ _ _ h' hst
 | .cond cc x y,α,k,r,Q,L,T,G0,G,w0,w,n,ds,s,μ,a,hc,hkn,h,hs,hk=>by
  simp only[bO]at h
  simp only[dF]at hc
  obtain⟨hx,hy⟩:=lM hc
  obtain⟨b,hb,h⟩:=ac.1 h
  have hv:=co (a:=a) hs.1 (fW hb)
  simp only[VR]at hv
  refine wp_cond hv ?_
  cases b with
  |true=>exact dv hm hrho hloop hseg x hx hkn h hs hk
  |false=>exact dv hm hrho hloop hseg y hy hkn h hs hk
 | .block id x,α,k,r,Q,L,T,G0,G,w0,w,n,ds,s,μ,a,hc,hkn,h,hs,hk=>by
  simp only[bO]at h
  simp only[dF]at hc
  refine wp_block (dv hm hrho hloop hseg x hc hkn h hs fun st e a' w' h' hst=> ?_)
  cases st with
  |norm s' μ'=>cases e<;>first|exact hst.elim|exact hk _ _ _ _ h' hst
  |exit i s' μ'=>
   cases e<;>first|exact hst.elim|skip
   simp only[StR]at hst
   obtain⟨rfl,hs'⟩:=hst
   simp only[Exit.inBlock]
   dsimp only at h'
   split at h'
   ·rename_i he
    rw[if_pos (Nat.eq_of_beq_eq_true he)]
    exact hk _ .normal _ _ h' hs'
   ·rename_i he
    rw[if_neg fun e=>by subst e;simp[Nat.beq_refl]at he]
    exact hk _ (.exit i) _ _ h' ⟨rfl,hs'⟩
  |ret s' μ'=>cases e<;>first|exact hst.elim|exact hk _ _ _ _ h' hst
  |panic v s' μ'=>cases e<;>first|exact hst.elim|exact hk _ _ _ _ h' hst
 | .loop x,α,k,r,Q,L,T,G0,G,w0,w,n,ds,s,μ,a,hc,hkn,h,hs,hk=>by
  simp only[bO]at h
  simp only[dF]at hc
  obtain⟨s1,G1,h1,R1,E1⟩:=k8 h hs.1
  obtain⟨s',G',h',R',E'⟩:=dO h1 R1
  obtain⟨s3,G3,h',R3,E3⟩:=oo (R'.lev▸h') R' (hs.2.1.trans (E1.trans E')) hs.2.2.2.2
  obtain⟨st,hst,h'⟩:=ac.1 h'
  exact(hloop _ _ _ _ _ _ hst L G3 w a Q T G0 w0 n ds hc hkn ⟨R3,E3,hs.2.2⟩ fun e a' w' hr=>hk st e a' w' h' hr).wp
 | .exit id,α,k,r,Q,L,T,G0,G,w0,w,n,ds,s,μ,a,hc,hkn,h,hs,hk=>by
  simp only[bO]at h
  exact wp_exit (hk _ (.exit id) _ _ h ⟨rfl,G,hs⟩)
 | .ret,α,k,r,Q,L,T,G0,G,w0,w,n,ds,s,μ,a,hc,hkn,h,hs,hk=>by
  simp only[bO]at h
  exact wp_ret (hk _ .ret _ _ h ⟨G,hs⟩)
 | .rangeFunc ..,α,k,r,Q,L,T,G0,G,w0,w,n,ds,s,μ,a,hc,hkn,h,hs,hk=>by simp[bO]at h
 | .scope ..,α,k,r,Q,L,T,G0,G,w0,w,n,ds,s,μ,a,hc,hkn,h,hs,hk=>by simp[bO]at h
 | .label ..,α,k,r,Q,L,T,G0,G,w0,w,n,ds,s,μ,a,hc,hkn,h,hs,hk=>by simp[bO]at h
 | .goto ..,α,k,r,Q,L,T,G0,G,w0,w,n,ds,s,μ,a,hc,hkn,h,hs,hk=>by simp[bO]at h
 | .refuse ..,α,k,r,Q,L,T,G0,G,w0,w,n,ds,s,μ,a,hc,hkn,h,hs,hk=>by simp[bO]at h
theorem Ft (hm:P.follows .mixedOrders=true)(hrho:d7 P W0 ρ)(hloop:lm P W0 ρ)(hseg:nA P W0 ρ){H:Hints}{lv:List (Nat×Nat)}{c:Code}{s:S}{μ:Mu}{st:St}(h:mI P ρ H lv c s μ=some st){L:Nat}{G G0:Gh}{w w0:World}{a:Act}{Q:Exit→Act→World→Prop}
  {T:Nat→Prop} {n:Nat} {ds:Keep} (hc:dF n ds.slot c=true) (hkn:Kn W0 w0 T) (hs:iC L T G0 w0 n ds s μ a w G) (hQ: ∀e a' w',StR L T G0 w0 n ds st e a' w'→Q e a' w'):qw P c Q a w:=by
 unfold mI at h
 refine .unroll (dv hm hrho hloop hseg c hc hkn h hs fun st1 e a' w' h' hst=> ?_)
 cases st1 with
 |norm s1 μ1=>
  cases e<;>simp only[StR]at hst
  obtain⟨G1,hs1⟩:=hst
  obtain⟨s3,G3,h3,R3,E3⟩:=k8 h' hs1.1
  obtain⟨s2,G2,h2,R2,E2⟩:=dO h3 R3
  obtain⟨s4,G4,h2,R4,E4⟩:=oo (R2.lev▸h2) R2 (hs1.2.1.trans (E3.trans E2)) hs1.2.2.2.2
  exact hloop _ _ _ _ _ _ h2 L G4 w' a' Q T G0 w0 n ds hc hkn ⟨R4,E4,hs1.2.2⟩ hQ
 |exit i s1 μ1=>
  cases e<;>first|exact hst.elim|skip
  simp only[StR]at hst
  obtain⟨rfl,G1,hs1⟩:=hst
  obtain⟨s2,G2,h2,R2,E2⟩:=dO h' hs1.1
  simp only[Option.some.injEq]at h2
  subst h2
  exact hQ (.exit i) a' w' ⟨rfl,G2,R2,hs1.2.1.trans E2,hs1.2.2⟩
 |ret s1 μ1=>
  cases e<;>first|exact hst.elim|skip
  simp only[StR]at hst
  obtain⟨G1,hs1⟩:=hst
  obtain⟨s2,G2,h2,R2,E2⟩:=dO h' hs1.1
  simp only[Option.some.injEq]at h2
  subst h2
  exact hQ .ret a' w' ⟨G2,R2,hs1.2.1.trans E2,hs1.2.2⟩
 |panic v s1 μ1=>
  cases e<;>first|exact hst.elim|skip
  simp only[StR]at hst
  obtain⟨G1,pv,rfl,hv,hs1⟩:=hst
  obtain⟨s2,G2,h2,R2,E2⟩:=dO h' hs1.1
  simp only[Option.some.injEq]at h2
  subst h2
  exact hQ _ a' w' ⟨G2,pv,rfl,bi E2.le _ _ hv,R2,hs1.2.1.trans E2,hs1.2.2⟩
theorem My (hm:P.follows .mixedOrders=true)(hrho:d7 P W0 ρ)(hloop:lm P W0 ρ)(hseg:nA P W0 ρ){H:Hints}{lv:List (Nat×Nat)}{c:Code}{s:S}{μ:Mu}{st:St}(h:uV P ρ H lv c s μ=some st){L:Nat}{G G0:Gh}{w w0:World}{a:Act}{Q:Exit→Act→World→Prop}
  {T:Nat→Prop} {n:Nat} {ds:Keep} (hc:dF n ds.slot c=true) (hkn:Kn W0 w0 T) (hs:iC L T G0 w0 n ds s μ a w G) (hQ: ∀e a' w',StR L T G0 w0 n ds st e a' w'→Q e a' w'):c.wp P Q a w:=by
 unfold uV at h
 refine dv hm hrho hloop hseg c hc hkn h hs fun st1 e a' w' h' hst=> ?_
 cases st1 with
 |norm s1 μ1=>
  cases e<;>simp only[StR]at hst
  obtain⟨G1,hs1⟩:=hst
  obtain⟨s2,G2,h2,R2,E2⟩:=dO h' hs1.1
  simp only[Option.some.injEq]at h2
  subst h2
  exact hQ .normal a' w' ⟨G2,R2,hs1.2.1.trans E2,hs1.2.2⟩
 |exit i s1 μ1=>
  cases e<;>first|exact hst.elim|skip
  simp only[StR]at hst
  obtain⟨rfl,G1,hs1⟩:=hst
  obtain⟨s2,G2,h2,R2,E2⟩:=dO h' hs1.1
  simp only[Option.some.injEq]at h2
  subst h2
  exact hQ (.exit i) a' w' ⟨rfl,G2,R2,hs1.2.1.trans E2,hs1.2.2⟩
 |ret s1 μ1=>
  cases e<;>first|exact hst.elim|skip
  simp only[StR]at hst
  obtain⟨G1,hs1⟩:=hst
  obtain⟨s2,G2,h2,R2,E2⟩:=dO h' hs1.1
  simp only[Option.some.injEq]at h2
  subst h2
  exact hQ .ret a' w' ⟨G2,R2,hs1.2.1.trans E2,hs1.2.2⟩
 |panic v s1 μ1=>
  cases e<;>first|exact hst.elim|skip
  simp only[StR]at hst
  obtain⟨G1,pv,rfl,hv,hs1⟩:=hst
  obtain⟨s2,G2,h2,R2,E2⟩:=dO h' hs1.1
  simp only[Option.some.injEq]at h2
  subst h2
  exact hQ _ a' w' ⟨G2,pv,rfl,bi E2.le _ _ hv,R2,hs1.2.1.trans E2,hs1.2.2⟩
end
section
variable {P:Program}{W0:World}{ρ:Rho}{L:Nat}{G G':Gh}{w w':World}{s:S}{μ μ':Mu}{tm:Array Value}
def zt (tm:Array Value)(x:ResultVar):Sem Value:=match x with
 | .tmp t=>pure (tm.getD t undef)
 | .cell a t=>do loadVar t (←asAddr (tm.getD a undef))
theorem Si (R:Rel G L s μ tm w){x:ResultVar}{y:LV}(h:Mw P s x=some y): ∃v,(zt tm x).run P w= .ok v w∧LVR G w L s.lam.length y v∧ ∀b,aH y v b→ ∃t,aH (s.fr t) (tm.getD t undef) b:=by
 cases x with
 |tmp t=>
  simp only[Mw,Option.some.injEq]at h
  subst h
  exact⟨_,rfl,R.fr t,fun b hb=>⟨t,hb⟩⟩
 |cell c t=>
  simp only[Mw]at h
  split at h<;>try(simp at h;done)
  rename_i i off he
  have hv:=R.fr c
  rw[he]at hv
  simp only[LVR]at hv
  unfold bv at h
  obtain⟨d,hd,h⟩:=ac.1 h
  obtain⟨cv,h1,h2,h3⟩:=oc (R.lam i) h ⟨d,hd⟩
  refine⟨cv,?_,h2,fun b hb=>absurd hb (h3 b)⟩
  simp only[Instr.loadAt,Instr.sureAddr,Sem.run_bind,Sem.run_pure,Result.andThen_ok]at h1
  simp only[zt,hv.2,asAddr,Sem.run_bind,Sem.run_pure,Result.andThen_ok]
  exact h1
theorem Bw (R:Rel G L s μ tm w): ∀{l:List ResultVar} {ys:List LV},vF P s l=some ys→ ∃vs:List Value,(l.mapM (zt tm)).run P w= .ok vs w∧vs.length=ys.length∧
  ∀j y,ys[j]? =some y→LVR G w L s.lam.length y (vs.getD j undef)∧ ∀b,aH y (vs.getD j undef) b→ ∃t,aH (s.fr t) (tm.getD t undef) b
 |[],ys,h=>by
  simp only[vF,Option.some.injEq]at h
  subst h
  exact⟨[],by simp,rfl,fun j y hy=>by simp at hy⟩
 |x::r,ys,h=>by
  simp only[vF]at h
  obtain⟨y,h1,h⟩:=ac.1 h
  obtain⟨l,h2,h⟩:=ac.1 h
  simp only[Option.some.injEq]at h
  subst h
  obtain⟨v,k1,k2,k3⟩:=Si R h1
  obtain⟨vs,k4,k5,k6⟩:=Bw R h2
  refine⟨v::vs,by simp only[List.mapM_cons,Sem.run_bind,k1,Result.andThen_ok,k4,Sem.run_pure],by simp[k5],fun j z hz=> ?_⟩
  cases j with
  |zero=>simp only[List.getElem?_cons_zero,Option.some.injEq]at hz;subst hz;simpa using And.intro k2 k3
  |succ j=>simpa using k6 j z (by simpa using hz)
theorem HZ (R:Rel G L s μ tm w){fn:Func}{ys:List LV}(h:vF P s fn.results.toList=some ys):
  ∃v,(results fn tm).run P w= .ok v w∧LVR G w L s.lam.length (eH ys) v∧ ∀b,aH (eH ys) v b→ ∃t,aH (s.fr t) (tm.getD t undef) b:=by
 obtain⟨vs,h1,h2,h3⟩:=Bw R h
 have hm:(fn.results.mapM (zt tm)).run P w= .ok vs.toArray w:=by
  rw[Array.mapM_eq_mapM_toList,Sem.run_map,h1]
  rfl
 have hrun:(results fn tm).run P w= .ok (if h:vs.toArray.size=1 then vs.toArray[0]else .tuple vs.toArray) w:=by
  unfold results
  rw[Sem.run_bind]
  have e: ∀x:Sem (Array Value),x.run P w= .ok vs.toArray w→(x.run P w).andThen (fun a w'=>Sem.run P (pure (if h:a.size=1 then a[0]else Value.tuple a)) w')=
    .ok (if h:vs.toArray.size=1 then vs.toArray[0]else .tuple vs.toArray) w:=fun x hx=>by rw[hx];rfl
  exact e _ hm
 refine⟨_,hrun,?_⟩
 by_cases hl:ys.length=1
 ·cases ys with
  |nil=>simp at hl
  |cons y r=>
   cases r with
   |cons=>simp at hl
   |nil=>
    cases vs with
    |nil=>simp at h2
    |cons v r=>
     cases r with
     |cons=>simp at h2
     |nil=>simpa[eH]using h3 0 y rfl
 ·have e:eH ys= .ltup (ys.map Go.Abs.strip1):=by
   cases ys with
   |nil=>rfl
   |cons t r=>
    cases r with
    |nil=>simp at hl
    |cons u r=>rfl
  rw[e,dif_neg (by simpa[h2]using hl)]
  refine⟨?_,fun b hb=>by simp[aH]at hb⟩
  simp only[LVR]
  refine⟨_,rfl,?_⟩
  simp only
  clear e hl hrun hm h1 h
  induction ys generalizing vs with
  |nil=>cases vs<;>simp_all [bT]
  |cons y r ih=>
   cases vs with
   |nil=>simp at h2
   |cons v vs=>
    have h0:=h3 0 y rfl
    simp only[List.getD_cons_zero]at h0
    simp only[List.map_cons,bT]
    refine⟨v,vs,rfl,(i7 h0.1).2,(i7 h0.1).1,ih vs (by simpa using h2) fun j z hz=> ?_⟩
    simpa using h3 (j+1) z (by simpa using hz)
theorem Rel.leave {G0:Gh}{w0:World}{T:Nat→Prop}(R:Rel G L s μ tm w)(E:Ext L T G0 w0 G w (aB G w s μ tm))(h0:G0.n L=0)(hgt: ∀l,L<l→G0.n l=0){vs:List LV}{tmr:Array Value}
  (hv: ∀j x,vs[j]? =some x→LVR (G.cut L) w L 0 x (tmr.getD j undef)) (ho: ∀j x b,vs[j]? =some x→aH x (tmr.getD j undef) b→(∃t,aH (s.fr t) (tm.getD t undef) b)∧j=0):
  Rel (G0.withO G.O) L (aP vs) μ tmr w∧Ext L T G0 w0 (G0.withO G.O) w (aB (G0.withO G.O) w (aP vs) μ tmr)∧Le (G.cut L) w (G0.withO G.O) w:=by
 have hμ:=R.lev
 have hleC:Le (G.cut L) w (G0.withO G.O) w:=by
  refine⟨fun _ _ _ h hb=>⟨h,hb⟩,fun lev i h=> ?_,fun _ _ _ h hc=>⟨h,hc⟩,fun b cur e fz h=>⟨cur,fz,h,rfl⟩⟩
  simp only[Gh.cut]at h
  split at h
  ·rename_i hl
   obtain⟨h1,h2⟩:=E.lev lev hl
   simp only[Gh.withO,Gh.cut]
   exact⟨by rw[←h2];exact h,(h1 i).1.symm,(h1 i).2.symm⟩
  ·omega
 have hβ: ∀lev i,lev<L→(G0.withO G.O).β lev i=G.β lev i∧(G0.withO G.O).sz lev i=G.sz lev i:=fun lev i hl=>⟨((E.lev lev hl).1 i).1.symm,((E.lev lev hl).1 i).2.symm⟩
 have hlive: ∀lev i,aK (aE (μ++[(aP vs).lam]) lev i)→lev<L∧aK (aE (μ++[s.lam]) lev i):=by
  intro lev i h
  obtain⟨h1,h2⟩:=lG h
  refine⟨by omega,?_⟩
  have h3:aE (μ++[s.lam]) lev i=aU μ lev i:=ba h1
  rw[h3,←h2];exact h
 have hown: ∀q b,ay (G0.withO G.O) w (aP vs).fr tmr (μ++[(aP vs).lam]) q b→(∃t,q= .fr 0∧ay G w s.fr tm (μ++[s.lam]) (.fr t) b)∨(∃lev i k,q= .ob lev i k∧ay G w s.fr tm (μ++[s.lam]) q b):=by
  intro q b h
  cases q with
  |fr t=>
   simp only[ay,ct]at h
   cases hx:vs[t]? with
   |none=>rw[hx]at h;simp[aH]at h
   |some x=>
    rw[hx]at h
    obtain⟨⟨u,hu⟩,rfl⟩:=ho t x b hx h
    exact .inl ⟨u,rfl,hu⟩
  |ob lev i k=>
   have hl:=fo h
   obtain⟨h1,h2⟩:=lG hl
   refine .inr ⟨lev,i,k,rfl,fp (fr':=(aP vs).fr) (tm':=tmr) ?_ (hβ lev i (by omega)).1 rfl h⟩
   rw[show aE (μ++[(aP vs).lam]) lev i=aU μ lev i from h2]
   exact(ba h1).symm
 refine⟨⟨hμ,fun t=> ?_,fun i=> ?_,fun lev i hl=> ?_,fun lev i lev' i' h h' e=> ?_,fun q q' b h h'=> ?_,fun q b lev i h h' e=> ?_,fun lev hl=> ?_,?_,hgt⟩,⟨⟨E.le.map,fun lev i h=>⟨h,rfl,rfl⟩,E.le.imm,E.le.blk⟩,E.os,E.tape,E.output,E.size,E.keep,fun b hb=>E.grow b ?_,fun l hl=>⟨fun _=>⟨rfl,rfl⟩,rfl⟩⟩,hleC⟩
 ·rw[ct]
  cases hx:vs[t]? with
  |none=>simp[LVR,VR]
  |some x=>
   have h1:=hv t x hx
   refine wH x _ (cZ (L:=L) (nl:=0) hleC (Nat.le_refl _) (fun i hi=>by omega) x _ (fun b _=>⟨rfl,rfl⟩) h1)
 ·have:aG (aP vs).lam i= .dead:=by simp[aP,aG]
  rw[this];trivial
 ·rw[(hβ lev i hl).1,(hβ lev i hl).2]
  refine ci (G:=G.below lev) (G':=(G0.withO G.O).below lev) (w':=w) ⟨fun _ _ _ h hb=>⟨h,hb⟩,fun l j hj=> ?_,fun _ _ _ h hc=>⟨h,hc⟩,fun b cur e fz h=>⟨cur,fz,h,rfl⟩⟩ (Nat.le_refl _) (fun _ h=>by omega) (fun _=>⟨rfl,rfl⟩) (fun _ _ _ _ _ _ _ _ _ _ _=>⟨rfl,rfl⟩) (R.mu lev i hl)
  simp only[Gh.below,Gh.withO]at hj ⊢
  split at hj
  ·rename_i hll
   obtain⟨h1,h2⟩:=E.lev l (by omega)
   rw[if_pos hll]
   exact⟨by rw[←h2];exact hj,(h1 j).1.symm,(h1 j).2.symm⟩
  ·omega
 ·have h1:=hlive lev i h
  have h2:=hlive lev' i' h'
  rw[(hβ lev i h1.1).1,(hβ lev' i' h2.1).1]at e
  exact R.inj lev i lev' i' h1.2 h2.2 e
 ·rcases hown q b h with⟨t,rfl,h1⟩|⟨lev,i,k,rfl,h1⟩<;>rcases hown q' b h' with⟨t',rfl,h1'⟩|⟨lev',i',k',rfl,h1'⟩
  ·rfl
  ·have:=R.own _ _ b h1 h1';cases this
  ·have:=R.own _ _ b h1 h1';cases this
  ·exact R.own _ _ b h1 h1'
 ·have h2:=hlive lev i h'
  rw[(hβ lev i h2.1).1]at e
  rcases hown q b h with⟨t,rfl,h1⟩|⟨lev',i',k',rfl,h1⟩
  ·exact R.apart _ b lev i h1 h2.2 e
  ·exact R.apart _ b lev i h1 h2.2 e
 ·have:=(E.lev lev hl).2
  rw[show (G0.withO G.O).n lev=G0.n lev from rfl,←this]
  exact R.nlt lev hl
 ·simp only[aP,Bool.false_eq_true,if_false]
  exact h0
 ·rcases hb with⟨q,hb⟩|⟨lev,i,hb,e⟩
  ·rcases hown q b hb with⟨t,rfl,h1⟩|⟨lev,i,k,rfl,h1⟩
   ·exact .inl ⟨_,h1⟩
   ·exact .inl ⟨_,h1⟩
  ·have h2:=hlive lev i hb
   exact .inr ⟨lev,i,h2.2,by rw[←(hβ lev i h2.1).1];exact e⟩
theorem Iq (h0:G.n L=0)(hgt: ∀l,L<l→G.n l=0):Le G w (G.cut L) w:=by
 refine⟨fun _ _ _ h hb=>⟨h,hb⟩,fun lev i h=>⟨?_,rfl,rfl⟩,fun _ _ _ h hc=>⟨h,hc⟩,fun b cur e fz h=>⟨cur,fz,h,rfl⟩⟩
 have hl:lev<L:=by
  rcases Nat.lt_trichotomy lev L with h1|h1|h1
  ·exact h1
  ·subst h1;omega
  ·have:=hgt lev h1;omega
 simp only[Gh.cut,if_pos hl]
 exact h
theorem sk: ∀{l:List LV},ge l=true→ ∀x∈l,iY x=true
 |[],_,x,h=>by simp at h
 |y::r,hp,x,h=>by
  simp only[ge]at hp
  split at hp<;>try(simp at hp;done)
  rcases List.mem_cons.1 h with rfl|h
  ·assumption
  ·exact sk hp x h
theorem Q2 {nl:Nat}{x:LV}{v:Value}(hf:p6 x=true)(hr:LVR G w L nl x v)(hb:(G.n L=0∧ ∀l,L<l→G.n l=0)∨gn L x=true):LVR (G.cut L) w L 0 x v:=by
 have one: ∀{x:LV} {v:Value},iY x=true→LVR G w L nl x v→((G.n L=0∧ ∀l,L<l→G.n l=0)∨mr L x=true)→LVR (G.cut L) w L 0 x v:=by
  intro x v hp hr hb
  cases x<;>simp only[iY,Bool.false_eq_true]at hp<;>simp only[LVR]at hr ⊢
  ·rcases hb with⟨h0,hgt⟩|hb
   ·exact bi (Iq h0 hgt) _ _ hr
   ·exact d5 _ _ hb hr
  ·rcases hb with⟨h0,hgt⟩|hb
   ·exact kn (Iq h0 hgt) (fun _ _ _ _=>⟨rfl,rfl⟩) hr
   ·exact AL hb hr
 unfold p6 at hf
 split at hf
 ·exact one rfl hr (hb.imp id (fun h=>h))
 ·exact one rfl hr (hb.imp id (fun h=>h))
 ·rename_i xs
  simp only[LVR]at hr ⊢
  obtain⟨vs,e,hl⟩:=hr
  refine⟨vs,e,?_⟩
  have hb':(G.n L=0∧ ∀l,L<l→G.n l=0)∨ ∀x∈xs,mr L x=true:=hb.imp id fun h=>by simpa[gn]using h
  have hm:=sk hf
  clear hb hf e
  generalize vs.toList=l at hl
  induction xs generalizing l with
  |nil=>simpa[bT]using hl
  |cons x xs ih=>
   simp only[bT]at hl ⊢
   obtain⟨v,r,e,h1,h2,h3⟩:=hl
   exact⟨v,r,e,h1,one (hm x (by simp)) h2 (hb'.imp id fun h=>h x (by simp)),ih (hb'.imp id fun h y hy=>h y (List.mem_cons_of_mem _ hy)) (fun y hy=>hm y (List.mem_cons_of_mem _ hy)) r h3⟩
 ·simp at hf
theorem Rel.retm (R:Rel G L s μ tm w){tm':Array Value}(hf: ∀t,s.fr t= .cv .undef∨tm'.getD t undef=tm.getD t undef):
  Rel G L s μ tm' w∧ ∀q b,ay G w s.fr tm' (μ++[s.lam]) q b↔ay G w s.fr tm (μ++[s.lam]) q b:=by
 have hown: ∀q b,ay G w s.fr tm' (μ++[s.lam]) q b↔ay G w s.fr tm (μ++[s.lam]) q b:=by
  intro q b
  cases q with
  |fr t=>
   simp only[ay]
   rcases hf t with h|h
   ·rw[h];simp[aH]
   ·rw[h]
  |ob lev i k=>exact Iff.rfl
 refine⟨⟨R.lev,fun t=> ?_,R.lam,R.mu,R.inj,fun l l' b h h'=>R.own l l' b ((hown l b).1 h) ((hown l' b).1 h'),fun l b lev i h h'=>R.apart l b lev i ((hown l b).1 h) h',R.nlt,R.nL,R.ngt⟩,hown⟩
 rcases hf t with h|h
 ·rw[h];simp[LVR,VR]
 ·rw[h];exact R.fr t
theorem ud {fn:Func}{G0:Gh}{w0:World}{T:Nat→Prop}{out:Out}(hfk:gL P fn.results.toList s μ=some out)(R':Rel G L s μ tm w)(E':Ext L T G0 w0 G w (aB G w s μ tm))
  (h0:G0.n L=0) (hgt: ∀l,L<l→G0.n l=0): ∃v,(results fn tm).run P w= .ok v w∧fK L T G0 w0 out (.returned v) w:=by
 unfold gL at hfk
 obtain⟨ys,hys,hfk⟩:=ac.1 hfk
 dsimp only at hfk
 obtain⟨hfl,hfk⟩:=aF.1 hfk
 obtain⟨v,hv1,hr1,hr2⟩:=HZ R' hys
 have hout:out= .ret (eH ys) μ∧((G.n L=0∧ ∀l,L<l→G.n l=0)∨gn L (eH ys)=true):=by
  split at hfk
  ·rename_i hp
   simp only[Option.some.injEq]at hfk
   refine⟨hfk.symm,.inl ⟨?_,R'.ngt⟩⟩
   have:=R'.nL
   rw[hp]at this
   simpa using this
  ·obtain⟨hbl,hfk⟩:=aF.1 hfk
   simp only[Option.some.injEq]at hfk
   rw[R'.lev]at hbl
   exact⟨hfk.symm,.inr hbl⟩
 obtain⟨rfl,hbel⟩:=hout
 refine⟨v,hv1,?_⟩
 obtain ⟨R3, E3, _⟩ := R'.leave (vs := [eH ys]) (tmr := #[v]) E' h0 hgt (fun j x hx => by
  cases j with
  |zero=>simp only[List.getElem?_cons_zero,Option.some.injEq]at hx;subst hx;exact Q2 hfl hr1 hbel
  |succ j=>simp at hx) (fun j x b hx hob=>by
  cases j with
  |zero=>simp only[List.getElem?_cons_zero,Option.some.injEq]at hx;subst hx;exact⟨hr2 b hob,rfl⟩
  |succ j=>simp at hx)
 exact⟨_,R3,E3⟩
theorem FU (hm:P.follows .mixedOrders=true)(hrho:d7 P W0 ρ)(hloop:lm P W0 ρ)(hseg:nA P W0 ρ){H:Hints}{f:FuncId}{fn:Func}{c:Code}{args:List LV}{out:Out}(hf:P.funcs[f]? =some fn)(hb:fn.body=some c)
  (h:B7 P ρ H fn c args μ=some out):cR P W0 f args μ out:=by
 unfold B7 at h
 obtain⟨hg,h⟩:=aF.1 h
 simp only[Bool.and_eq_true,Bool.not_eq_true']at hg
 obtain⟨⟨hg1,hg2⟩,hg3⟩:=hg
 have hg1:=Nat.le_of_ble_eq_true hg1
 refine⟨⟨fn,c,hf,hb,hg3⟩,fun G w cargs hsz R hkn=> ?_⟩
 refine calls_of_wp hf hb ?_
 have hsize:(cargs++Array.replicate (fn.ntmps-cargs.size) undef).size=fn.ntmps:=by simp;omega
 obtain⟨R1,hO⟩:=R.retm (tm':=cargs++Array.replicate (fn.ntmps-cargs.size) undef) fun t=>by
  by_cases ht:t<cargs.size
  ·right
   simp[Array.getD_eq_getD_getElem?,Array.getElem?_append_left ht]
  ·left
   rw[ct,List.getElem?_eq_none (by omega)]
   rfl
 have h0:G.n μ.length=0:=by simpa[aP]using R.nL
 refine dv hm hrho hloop hseg (L:=μ.length) (T:=aB G w (aP args) μ cargs) (G0:=G) (w0:=w) (n:=fn.ntmps) (ds:=⟨[],none⟩) c hg2 hkn h ⟨R1,Ext.refl G w fun b hb=> ?_,hsize,⟨rfl,fun _ _ e=>by cases e⟩,h0⟩ ?_
 ·rcases hb with⟨q,hb⟩|hb
  ·exact .inl ⟨q,(hO q b).1 hb⟩
  ·exact .inr hb
 ·have fin: ∀(s':S) (μ':Mu) (a':Act) (w':World) (G':Gh),gL P fn.results.toList s' μ'=some out→iC μ.length (aB G w (aP args) μ cargs) G w fn.ntmps ⟨[],none⟩ s' μ' a' w' G'→
    a'.defers=[]∧ ∃v,(results fn a'.tmps).run P w'= .ok v w'∧fK μ.length (aB G w (aP args) μ cargs) G w out (.returned v) w':=by
   intro s' μ' a' w' G' hfk hs
   obtain⟨R',E',_,hds,_⟩:=hs
   obtain⟨v,h1,h2⟩:=ud hfk R' E' h0 R.ngt
   exact⟨hds.1,v,h1,h2⟩
  intro st e a' w' hst hr
  cases st with
  |norm s' μ'=>
   cases e<;>simp only[StR]at hr
   obtain⟨G',hs⟩:=hr
   exact fin s' μ' a' w' G' hst hs
  |ret s' μ'=>
   cases e<;>simp only[StR]at hr
   obtain⟨G',hs⟩:=hr
   exact fin s' μ' a' w' G' hst hs
  |exit i s' μ'=>simp at hst
  |panic v s' μ'=>
   cases e<;>simp only[StR]at hr
   obtain⟨G',pv,rfl,hv,R',E',_,hds,_⟩:=hr
   obtain⟨hbl,hst⟩:=aF.1 hst
   simp only[Option.some.injEq]at hst
   subst hst
   rw[R'.lev]at hbl
   refine⟨hds.1,?_⟩
   obtain⟨R3,E3,hle⟩:=R'.leave (vs:=[]) (tmr:= #[]) E' h0 R.ngt (fun j x hx=>by simp at hx) (fun j x b hx=>by simp at hx)
   exact⟨_,pv,rfl,bi hle _ _ (d5 _ _ hbl hv),R3,E3⟩
end
end Go.Abs
set_option linter.unusedVariables false
set_option linter.unusedSimpArgs false
namespace Go.Abs
open Go
section
variable {P:Program}{W0:World}{ρ:Rho}{L:Nat}{G G':Gh}{w w':World}{s:S}{μ μ':Mu}{tm:Array Value}
def Cm (N:Act→World→Prop)(Q:Exit→Act→World→Prop):Exit→Act→World→Prop
  | .normal,a,w=>N a w
  |e,a,w=>Q e a w
theorem vc {ops:Array Oper}{Q:Exit→Act→World→Prop}{l2:List Nat}: ∀{l1:List Nat} {a:Act} {w:World},wpOps P ops (Cm (wpOps P ops Q l2) Q) l1 a w→wpOps P ops Q (l1++l2) a w
  |[],a,w,h=>h
  |i::l1,a,w,h=>by
    rw[List.cons_append,wpOps_cons]
    rw[wpOps_cons]at h
    have h:=wpOp_mono (fun a w=>vc (l1:=l1)) h
    unfold wpOp at h ⊢
    split at h
    · exact h
    · split at h
      · rename_i hw
        rw[if_pos hw]
        rcases h with h|⟨h1,a',w',h2⟩
        · left
          unfold Oper.wp at h ⊢
          generalize(execOp a.eval _).run P w=r at*
          cases r with
          |ok n w'=>
            cases n<;>simp only[Oper.upon]at h ⊢ <;>first
              |exact h
              | (refine Go.Calls.mono h fun e w'' he => ?_
                 cases e with
                 |returned v=>exact he
                 |panicked ch=>exact he
                 |outgrown=>obtain⟨a',w',h2⟩:=he;exact⟨a',w',h2⟩)
          |halt x w'=>cases x<;>simp only[Oper.upon]at h ⊢ <;>exact h
        · exact .inr ⟨h1,a',w',h2⟩
      · rename_i hw
        rw[if_neg hw]
        exact h
theorem g8 {ops:Array Oper}{Q:Exit→Act→World→Prop}{Q':Exit→Act→List Frame→World→Prop}{cs:List Frame}(hQ: ¬LetsOut Q)(hq: ∀e a w,Q e a w→Q' e a cs w): ∀{l:List Nat} {a:Act} {w:World},wpOps P ops Q l a w→wpOpsS P ops Q' l a cs w
  |[],a,w,h=>hq _ _ _ h
  |i::l,a,w,h=>by
    simp only[wpOps]at h
    simp only[wpOpsS]
    cases ho:ops[i]? with
    |none=>rw[ho]at h;exact g8 hQ hq h
    |some o=>
      rw[ho]at h
      simp only at h ⊢
      split at h
      · rename_i hw
        rw[if_pos hw]
        rcases h with h|⟨_,h⟩
        rotate_left
        · exact absurd h hQ
        unfold Oper.wp at h
        generalize(execOp a.eval o).run P w=r at*
        cases r with
        |ok n w'=>
          cases n with
          |value v=>exact g8 hQ hq h
          |skip=>exact g8 hQ hq h
          |defer d=>exact g8 hQ hq h
          |enter f args=>
            refine Go.Calls.mono h fun e w'' he=> ?_
            cases e with
            |returned v=>exact g8 hQ hq he
            |panicked ch=>exact hq _ _ _ he
            |outgrown=>exact absurd he hQ
          |row row args=>exact Rows.mono h fun v w'' he=>g8 hQ hq he
          |_=>exact h.elim
        |halt x w'=>
          cases x with
          |panic v=>exact hq _ _ _ h
          |_=>exact h.elim
      · rename_i hw
        rw[if_neg hw]
        exact g8 hQ hq h
theorem SF {c:Code}{Q Q':Exit→Act→List Frame→World→Prop}{a:Act}{cs:List Frame}{w:World}(hq: ∀e a cs w,Q e a cs w→Q' e a cs w)(h:c.wpS P Q a cs w):c.wpS P Q' a cs w:=
  fun b k hb hr=>let⟨e,a',cs',w',q,r⟩:=h b k hb hr;⟨e,a',cs',w',hq _ _ _ _ q,r⟩
def qc (pv:Option CV)(cpv:Value):FrameMode:=match pv with|some _=> .panicking [{v:=cpv,recovered:=false}]|none=> .returning
def fc (pv:Option CV)(cpv:Value):FrameMode:=match pv with|some _=> .panicking [{v:=cpv,recovered:=true}]|none=> .returning
theorem BW {pv:Option CV}{cpv:Value}:settle (fc pv cpv)= .returning:=by
  cases pv<;>simp[fc,settle]
def M7 (P:Program)(W0:World)(f:FuncId)(pv:Option CV)(args:List LV)(μ μ':Mu):Prop:=
  (∃fn c,P.funcs[f]? =some fn∧fn.body=some c∧(fn.name == "runtime.NumGoroutine")=false)∧
  ∀(G:Gh) (w:World) (cargs:Array Value) (cpv:Value),cargs.size=args.length→Rel G μ.length (aP args) μ cargs w→(∀v,pv=some v→VR G w v cpv)→Kn W0 w (aB G w (aP args) μ cargs)→
    CallsD P f cargs (qc pv cpv) w fun e u' w'=> ∃v,e= .returned v∧u'=fc pv cpv∧
      ∃O',Rel (G.withO O') μ.length (aP []) μ' #[] w'∧Ext μ.length (aB G w (aP args) μ cargs) G w (G.withO O') w' (aB (G.withO O') w' (aP []) μ' #[])
def wB (P:Program)(W0:World)(ρ:Rho):Prop:= ∀f pv args μ μ',ρ.dcall f pv args μ=some μ'→M7 P W0 f pv args μ μ'
theorem Ap {o:Oper}(h:ui o=true):o.guard=none∧ ∃c,o.op= .call c∧c.callee= .builtin .recover:=by
  unfold ui at h
  split at h<;>try(cases h;done)
  rename_i c hg ho
  split at h<;>try(cases h;done)
  rename_i hc
  exact⟨hg,c,ho,hc⟩
theorem DF (hm:P.follows .mixedOrders=true)(hrho:d7 P W0 ρ)(hloop:lm P W0 ρ)(hseg:nA P W0 ρ){H:Hints}{f:FuncId}{fn:Func}{c:Code}{pv:Option CV}{args:List LV}(hf:P.funcs[f]? =some fn)(hb:fn.body=some c)
    (h:pW P ρ H fn c pv args μ=some μ'):M7 P W0 f pv args μ μ':=by
  unfold pW at h
  split at h<;>try(cases h;done)
  rename_i id ops draw b
  split at h<;>try(cases h;done)
  split at h<;>try(cases h;done)
  rename_i o ho
  obtain⟨hg,h⟩:=aF.1 h
  simp only[Bool.and_eq_true,Bool.not_eq_true']at hg
  obtain⟨⟨⟨⟨⟨hg1,hg2⟩,hg3⟩,hg4⟩,hg5⟩,hg6⟩:=hg
  have hg1:=Nat.le_of_ble_eq_true hg1
  refine⟨⟨fn,_,hf,hb,hg4⟩,fun G w cargs cpv hsz R hpv hkn=> ?_⟩
  obtain⟨hgu,cc,hop,hcal⟩:=Ap hg5
  have hsize:(cargs++Array.replicate (fn.ntmps-cargs.size) undef).size=fn.ntmps:=by simp;omega
  obtain⟨R1,hO⟩:=R.retm (tm':=cargs++Array.replicate (fn.ntmps-cargs.size) undef) fun t=>by
    by_cases ht:t<cargs.size
    · right
      simp[Array.getD_eq_getD_getElem?,Array.getElem?_append_left ht]
    · left
      rw[ct,List.getElem?_eq_none (by omega)]
      rfl
  have h0:G.n μ.length=0:=by simpa[aP]using R.nL
  have E1:Ext μ.length (aB G w (aP args) μ cargs) G w G w (aB G w (aP args) μ (cargs++Array.replicate (fn.ntmps-cargs.size) undef)):=Ext.refl G w fun b hb=>by
    rcases hb with⟨q,hb⟩|hb
    · exact .inl ⟨q,(hO q b).1 hb⟩
    · exact .inr hb
  refine callsD_of_wpS hf hb fun c₀ cs hc₀=> ?_
  let A:Act:={tmps:=cargs++Array.replicate (fn.ntmps-cargs.size) undef,defers:=[]}
  let rv:Value:=match pv with|some _=>cpv|none=> .nilIface
  let c1:Frame:={c₀ with mode:=fc pv cpv}
  have hds: ∀(i:Nat) (o:Oper),ops[i]? =some o→ ∀d,o.dst=some d→d<fn.ntmps∧(Keep.mk [] none).lets d:=fun i o ho d hd=>k9 (ds:=⟨[],none⟩) hg2 (by simpa using ho) d hd
  obtain ⟨R2, E2⟩ := cg (a := A) (dst := o.dst) (v := Fo pv) (cv := rv) (w := w) R1 E1 (by
    cases pv with
    |none=>simp[Fo,rv,LVR,VR]
    |some v=>simpa[Fo,rv,LVR]using hpv v rfl) (fun b hb=>by cases pv<;>simp[Fo,aH]at hb) (fun d hd=>by rw[show A.tmps=_ from rfl,hsize];exact(hds 0 o ho d hd).1)
  have hpos:0<ops.size:=(Array.getElem?_eq_some_iff.1 ho).1
  have hrange:List.range ops.size=0::List.range' 1 (ops.size-1):=by
    rw[List.range_eq_range']
    conv=>lhs;rw[show ops.size=(ops.size-1)+1 by omega]
    rw[List.range'_succ]
  let Q:Exit→Act→World→Prop:=fun e a w'=>match e with
    | .normal| .ret=>a.defers=[]∧(∃v,(results fn a.tmps).run P w'= .ok v w')∧ ∃O',Rel (G.withO O') μ.length (aP []) μ' #[] w'∧Ext μ.length (aB G w (aP args) μ cargs) G w (G.withO O') w' (aB (G.withO O') w' (aP []) μ' #[])
    |_=>False
  have hlets: ∀N,¬LetsOut (Cm N Q):=fun N ⟨a,w,h⟩=>h
  have fin: ∀(s':S) (a':Act) (w':World) (G':Gh),iC μ.length (aB G w (aP args) μ cargs) G w fn.ntmps ⟨[],none⟩ s' μ' a' w' G'→
      a'.defers=[]∧(∃v,(results fn a'.tmps).run P w'= .ok v w')∧ ∃O',Rel (G.withO O') μ.length (aP []) μ' #[] w'∧Ext μ.length (aB G w (aP args) μ cargs) G w (G.withO O') w' (aB (G.withO O') w' (aP []) μ' #[]):=by
    intro s' a' w' G' hs
    obtain⟨R',E',_,hd,_⟩:=hs
    refine⟨hd.1,?_,?_⟩
    · have he:fn.results= #[]:=by simpa using hg6
      exact⟨.tuple #[],by simp[results,he]⟩
    · obtain⟨R3,E3,_⟩:=R'.leave (vs:=[]) (tmr:= #[]) E' h0 R.ngt (fun j x hx=>by simp at hx) (fun j x b hx=>by simp at hx)
      exact⟨_,R3,E3⟩
  have hbw: ∀(s':S) (μ1:Mu) (a':Act) (w':World) (G':Gh),(bO P ρ H b s' μ1 fun st=>match st with| .norm s μ=>some μ| .ret s μ=>some μ|_=>none)=some μ'→iC μ.length (aB G w (aP args) μ cargs) G w fn.ntmps ⟨[],none⟩ s' μ1 a' w' G'→b.wp P Q a' w':=by
    intro s' μ1 a' w' G' hx hs
    refine dv hm hrho hloop hseg (L:=μ.length) (G0:=G) (w0:=w) (n:=fn.ntmps) (ds:=⟨[],none⟩) b hg3 hkn hx hs fun st e a2 w2 hst hr=> ?_
    cases st with
    |norm s2 μ2=>
      simp only[Option.some.injEq]at hst
      subst hst
      cases e<;>simp only[StR]at hr
      obtain⟨G2,hs2⟩:=hr
      exact fin s2 a2 w2 G2 hs2
    |ret s2 μ2=>
      simp only[Option.some.injEq]at hst
      subst hst
      cases e<;>simp only[StR]at hr
      obtain⟨G2,hs2⟩:=hr
      exact fin s2 a2 w2 G2 hs2
    |exit i s2 μ2=>simp at hst
    |panic v s2 μ2=>simp at hst
  have hops:wpOps P ops (Cm (b.wp P Q) Q) (List.range' 1 (ops.size-1)) (A.put o.dst rv) w:=by
    refine ie (L:=μ.length) (G0:=G) (w0:=w) (T:=aB G w (aP args) μ cargs) (n:=fn.ntmps) (ds:=⟨[],none⟩) (r:=μ') hrho hds hkn ?_ ?_ _ h R2 E2 (by rw[(jQ A o.dst rv).1];exact hsize) (Keep.put ⟨rfl,fun _ _ e=>by cases e⟩ fun d hd=>(hds 0 o ho d hd).2)
    · intro s1 μ1 a1 w1 G1 hx R' E' hn' hd'
      exact hbw s1 μ1 a1 w1 G1 hx ⟨R',E',hn',hd',h0⟩
    · intro v s1 μ1 pv1 a1 w1 G1 hx
      cases hx
  refine wpS_seq (wpS_region ?_)
  rw[hrange]
  simp only[wpOpsS,ho]
  have hw:Region.wanted o (yielded ops A.tmps)=true:=by simp[Region.wanted,hgu]
  rw[if_pos hw]
  have hrun:(execOp A.eval o).run P w= .ok .recover w:=by
    simp[execOp,hop,resolve,hcal,invoke,builtin]
  have hrec:recoverD (c₀::cs)=(match pv with|some _=>some (cpv,c1::cs)|none=>none):=by
    cases pv with
    |none=>simp[recoverD,hc₀,qc]
    |some v=>simp[recoverD,hc₀,qc,c1,fc]
  rw[hrun]
  simp only
  have key : wpOpsS P ops (Exit.thenS (b.wpS P (bodyPostS P fn c₀ cs fun e u' w' => ∃ v, e = .returned v ∧ u' = fc pv cpv ∧
      ∃O',Rel (G.withO O') μ.length (aP []) μ' #[] w'∧Ext μ.length (aB G w (aP args) μ cargs) G w (G.withO O') w' (aB (G.withO O') w' (aP []) μ' #[])))
      (bodyPostS P fn c₀ cs fun e u' w' => ∃ v, e = .returned v ∧ u' = fc pv cpv ∧
      ∃O',Rel (G.withO O') μ.length (aP []) μ' #[] w'∧Ext μ.length (aB G w (aP args) μ cargs) G w (G.withO O') w' (aB (G.withO O') w' (aP []) μ' #[])))
      (List.range' 1 (ops.size-1)) (A.put o.dst rv) (c1::cs) w:=by
    refine g8 (hlets _) ?_ hops
    intro e a1 w1 hq
    cases e with
    |normal=>
      simp only[Exit.thenS]
      refine SF ?_ (wpS_of_wp (cs:=c1::cs) (Q:=fun e a cs' w=>cs'=c1::cs∧Q e a w) (Code.wp_mono (fun e a w h=>⟨rfl,h⟩) hq))
      rintro e a2 cs2 w2 ⟨rfl,hq2⟩
      cases e with
      |normal=>obtain⟨h1,⟨v,h2⟩,h3⟩:=hq2;exact⟨h1,_,rfl,v,h2,v,rfl,rfl,h3⟩
      |ret=>obtain⟨h1,⟨v,h2⟩,h3⟩:=hq2;exact⟨h1,_,rfl,v,h2,v,rfl,rfl,h3⟩
      |_=>exact hq2.elim
    |ret=>obtain⟨h1,⟨v,h2⟩,h3⟩:=hq;exact⟨h1,_,rfl,v,h2,v,rfl,rfl,h3⟩
    |_=>exact hq.elim
  cases pv with
  |none=>
    rw[hrec]
    have e1:c1=c₀:=by
      simp only[c1,fc]
      rw[show FrameMode.returning=c₀.mode from hc₀.symm]
    rw[e1]at key
    exact key
  |some v=>
    rw[hrec]
    exact key
theorem DX {t:Nat}{o:Oper}(h:Ao t o=true):o.guard=none∧o.dst=none∧ ∃c,o.op= .defer c∧c.callee= .value (.tmp t)∧c.args= #[]:=by
  unfold Ao at h
  split at h<;>try(cases h;done)
  rename_i c hg hd ho
  split at h<;>try(cases h;done)
  rename_i u hc
  split at h<;>try(cases h;done)
  rename_i ha
  have:=Nat.eq_of_beq_eq_true h
  subst this
  exact⟨hg,hd,c,ho,hc,by simpa using ha⟩
theorem Ah {T:Nat→Prop}{G0:Gh}{w0:World}(hd:wB P W0 ρ){t:Nat}{pv:Option CV}{α:Type}{k:S→Mu→Option α}{r:α}(h:kJ ρ t pv s μ k=some r)(R:Rel G L s μ tm w)(E0:Ext L T G0 w0 G w (aB G w s μ tm))
    (hkn:Kn W0 w0 T) {cpv:Value} (hpv: ∀v,pv=some v→VR G w v cpv):
    ∃f vs,tm.getD t undef= .func (.func f) #[] vs∧(∃fn c,P.funcs[f]? =some fn∧fn.body=some c∧(fn.name == "runtime.NumGoroutine")=false)∧
      CallsD P f vs (qc pv cpv) w fun e u' w'=> ∃v,e= .returned v∧u'=fc pv cpv∧ ∃s' μ' G',k s' μ'=some r∧Rel G' L s' μ' tm w'∧Ext L T G0 w0 G' w' (aB G' w' s' μ' tm):=by
  unfold kJ at h
  split at h<;>try(cases h;done)
  rename_i f caps hfr
  obtain⟨args',ha,h⟩:=ac.1 h
  obtain⟨l,hlm,h⟩:=ac.1 h
  obtain⟨μ2,hdc,h⟩:=ac.1 h
  obtain⟨q,hq,hk9⟩:=ac.1 h
  have hq':=rO hq
  clear hq h
  subst hq'
  have hv:=R.fr t
  rw[hfr]at hv
  simp only[LVR]at hv
  obtain⟨vs,hvs,hcaps⟩:=hv
  obtain⟨hfn,hM⟩:=hd _ _ _ _ _ hdc
  refine⟨f,vs,hvs,hfn,?_⟩
  have hμ:=R.lev
  rw[hμ]at ha hlm
  obtain⟨hcl,hcg⟩:=qt hcaps
  have A:ArgsR G w L s tm [] caps vs:=by
    refine⟨by simpa using hcl.symm,fun j x hx=> ?_,fun j x b hx hob=> ?_⟩
    · obtain⟨v,hv,hr,_⟩:=hcg j x hx
      have:vs.getD j undef=v:=by
        rw[Array.getElem?_toList]at hv
        simp[Array.getD_eq_getD_getElem?,hv]
      rw[this]
      exact hr
    · obtain⟨v,hv,hr,hne⟩:=hcg j x hx
      exact absurd hob (nz hne)
  obtain⟨Re,hown,hlive⟩:=R.enterP A ha hlm
  have hT: ∀b,aB (G.push L s.lam.length) w (aP args') (μ++[l]) vs b→ ∀t,¬aH (s.fr t) (tm.getD t undef) b:=by
    rintro b (⟨q,hb⟩|⟨lev,i,hb,rfl⟩) t ht
    · rcases hown q b hb with⟨j,x,rfl,hx,ho⟩|⟨lev,i,k,rfl,ho⟩
      · obtain⟨⟨u,hu,_⟩,_⟩:=A.own j x b hx ho
        simp at hu
      · have:=R.own (.fr t) _ b ht ho
        cases this
    · exact R.apart (.fr t) _ lev i ht (hlive lev i hb) rfl
  have hT0: ∀b,aB (G.push L s.lam.length) w (aP args') (μ++[l]) vs b→aB G w s μ tm b:=by
    rintro b (⟨q,hb⟩|⟨lev,i,hb,rfl⟩)
    · rcases hown q b hb with⟨j,x,rfl,hx,ho⟩|⟨lev,i,k,rfl,ho⟩
      · obtain⟨⟨u,hu,_⟩,_⟩:=A.own j x b hx ho
        simp at hu
      · exact .inl ⟨_,ho⟩
    · exact .inr ⟨lev,i,hlive lev i hb,rfl⟩
  have hnL: ∀i,i<G.n L→i<s.lam.length:=fun i hi=>by
    have:=R.nL
    split at this<;>omega
  have hcall:=hM (G.push L s.lam.length) w vs cpv (by rw[A.size,(gW ha).1]) (by rw[List.length_append,hμ];exact Re) (fun v e=>bi (ll hnL) v _ (hpv v e)) ((hkn.ext E0).mono hT0)
  rw[show (μ++[l]).length=L+1 by simp[hμ]]at hcall
  refine hcall.mono ?_
  rintro e u' w' ⟨v,rfl,rfl,O',Rc,E⟩
  refine⟨v,rfl,rfl,{s with lam:=q.2,pushed:=true},q.1,(G.push L s.lam.length).withO O',hk9,?_⟩
  obtain⟨R2,h2,h3⟩:=R.mergeP (O':=O') hT rfl Rc E
  have hin: ∀b,aB ((G.push L s.lam.length).withO O') w' (aP []) (q.1++[q.2]) #[] b→(aB G w s μ tm b∨w.heap.size≤b):=fun b hb=>(E.grow b hb).imp (hT0 b) id
  refine⟨R2,E0.trans ⟨(ll hnL).trans E.le,E.os,E.tape,E.output,E.size,fun b hb hn=>E.keep b hb fun hh=>hn (hT0 b hh),fun b hb=> ?_,fun lv hlv=> ?_⟩⟩
  · rcases hb with⟨q',hb⟩|⟨lev,i,hb,rfl⟩
    · rcases h2 q' b hb with⟨_,_,h4⟩|⟨_,h4⟩
      · exact .inl (.inl ⟨q',h4⟩)
      · exact hin b (.inl ⟨q',h4⟩)
    · exact hin _ (.inr ⟨lev,i,h3 lev i hb,rfl⟩)
  · refine⟨fun _=>⟨rfl,rfl⟩,?_⟩
    simp only[Gh.withO,Gh.push]
    rw[if_neg (by omega)]
theorem C7 (hm:P.follows .mixedOrders=true)(hrho:d7 P W0 ρ)(hloop:lm P W0 ρ)(hseg:nA P W0 ρ)(hdc:wB P W0 ρ){H:Hints}{f:FuncId}{fn:Func}{c:Code}{t:Nat}{args:List LV}{out:Out}(hf:P.funcs[f]? =some fn)(hb:fn.body=some c)
    (h:pT P ρ H fn c t args μ=some out):cR P W0 f args μ out:=by
  unfold pT at h
  split at h<;>try(cases h;done)
  rename_i ca id ops draw cb
  split at h<;>try(cases h;done)
  split at h<;>try(cases h;done)
  rename_i o ho
  obtain⟨hg,h⟩:=aF.1 h
  simp only[Bool.and_eq_true,Bool.not_eq_true']at hg
  obtain⟨⟨⟨⟨⟨hg1,hg2⟩,hg3⟩,hg4⟩,hg5⟩,hg6⟩:=hg
  have hg1:=Nat.le_of_ble_eq_true hg1
  obtain⟨hgu,hdst,cc,hop,hcal,hargs⟩:=DX hg6
  refine⟨⟨fn,_,hf,hb,hg5⟩,fun G w cargs hsz R hkn=> ?_⟩
  refine calls_of_wp_defers hf hb ?_
  have hsize:(cargs++Array.replicate (fn.ntmps-cargs.size) undef).size=fn.ntmps:=by simp;omega
  obtain⟨R1,hO⟩:=R.retm (tm':=cargs++Array.replicate (fn.ntmps-cargs.size) undef) fun t=>by
    by_cases ht:t<cargs.size
    · right
      simp[Array.getD_eq_getD_getElem?,Array.getElem?_append_left ht]
    · left
      rw[ct,List.getElem?_eq_none (by omega)]
      rfl
  have h0:G.n μ.length=0:=by simpa[aP]using R.nL
  have E1:Ext μ.length (aB G w (aP args) μ cargs) G w G w (aB G w (aP args) μ (cargs++Array.replicate (fn.ntmps-cargs.size) undef)):=Ext.refl G w fun b hb=>by
    rcases hb with⟨q,hb⟩|hb
    · exact .inl ⟨q,(hO q b).1 hb⟩
    · exact .inr hb
  have hpos:0<ops.size:=by
    have:=(Array.getElem?_eq_some_iff.1 ho).1
    omega
  have hrange:List.range ops.size=List.range (ops.size-1)++[ops.size-1]:=by
    conv=>lhs;rw[show ops.size=(ops.size-1)+1 by omega]
    rw[List.range_succ]
  have fin: ∀(pv:Option CV) (cpv:Value) (s':S) (μ':Mu) (a':Act) (w':World) (G':Gh) (vs0:Value),kJ ρ t pv s' μ' (fun s μ=>gL P fn.results.toList s μ)=some out→(∀v,pv=some v→VR G' w' v cpv)→
      ∀d:Deferred,(∀f vs,vs0= .func (.func f) #[] vs→d={target:= .fn (.func f) vs,args:= #[]})→iC μ.length (aB G w (aP args) μ cargs) G w fn.ntmps ⟨[d],some (t,vs0)⟩ s' μ' a' w' G'→
      Leaves P fn a'.tmps (fK μ.length (aB G w (aP args) μ cargs) G w out) a'.defers (qc pv cpv) w':=by
    intro pv cpv s' μ' a' w' G' vs0 hdk hpv d hd hs
    obtain⟨R',E',_,⟨hk1,hk2⟩,_⟩:=hs
    obtain⟨f',vs,hval,⟨fn',c',hf',hb',hn'⟩,hcall⟩:=Ah hdc hdk R' E' hkn hpv
    have hv0:=hk2 t vs0 rfl
    rw[hval]at hv0
    have hd:=hd f' vs hv0.symm
    subst hd
    rw[hk1]
    refine⟨by cases pv<;>simp[qc],.func f',vs,f',vs,rfl,?_,?_⟩
    · simp only[invoke,callFunc,Sem.run_bind,run_program,Result.andThen_ok,hf',hn',hb',Option.isNone_some,Bool.false_eq_true,if_false,Array.empty_append,Sem.run_pure]
    · refine hcall.mono ?_
      rintro e u' w2 ⟨v,rfl,rfl,s2,μ2,G2,hk,R2,E2⟩
      simp only
      rw[BW]
      simp only[Leaves]
      exact ud hk R2 E2 h0 R.ngt
  have hbw: ∀(s':S) (μ1:Mu) (a':Act) (w':World) (G':Gh) (vs0:Value),bO P ρ H cb s' μ1 (Aj P ρ t fn.results.toList)=some out→
      ∀d:Deferred,(∀f vs,vs0= .func (.func f) #[] vs→d={target:= .fn (.func f) vs,args:= #[]})→iC μ.length (aB G w (aP args) μ cargs) G w fn.ntmps ⟨[d],some (t,vs0)⟩ s' μ1 a' w' G'→
      cb.wp P (bodyPostD P fn (fK μ.length (aB G w (aP args) μ cargs) G w out)) a' w':=by
    intro s' μ1 a' w' G' vs0 hx d hd hs
    refine dv hm hrho hloop hseg (L:=μ.length) (G0:=G) (w0:=w) (n:=fn.ntmps) (ds:=⟨[d],some (t,vs0)⟩) cb hg4 hkn hx hs fun st e a2 w2 hst hr=> ?_
    cases st with
    |norm s2 μ2=>
      cases e<;>simp only[StR]at hr
      obtain⟨G2,hs2⟩:=hr
      exact fin none undef s2 μ2 a2 w2 G2 vs0 hst (fun v hv=>by cases hv) d hd hs2
    |ret s2 μ2=>
      cases e<;>simp only[StR]at hr
      obtain⟨G2,hs2⟩:=hr
      exact fin none undef s2 μ2 a2 w2 G2 vs0 hst (fun v hv=>by cases hv) d hd hs2
    |exit i s2 μ2=>simp[Aj]at hst
    |panic v s2 μ2=>
      cases e<;>simp only[StR]at hr
      obtain⟨G2,pv,rfl,hv,hs2⟩:=hr
      exact fin (some v) pv s2 μ2 a2 w2 G2 vs0 hst (fun v' hv'=>by injection hv' with hv';subst hv';exact hv) d hd hs2
  have hds: ∀(i:Nat) (o:Oper),ops[i]? =some o→ ∀d,o.dst=some d→d<fn.ntmps∧(Keep.mk [] none).lets d:=fun i o ho d hd=>k9 (ds:=⟨[],none⟩) hg3 (by simpa using ho) d hd
  refine wp_seq (dv hm hrho hloop hseg (L:=μ.length) (T:=aB G w (aP args) μ cargs) (G0:=G) (w0:=w) (n:=fn.ntmps) (ds:=⟨[],none⟩) ca hg2 hkn h ⟨R1,E1,hsize,⟨rfl,fun _ _ e=>by cases e⟩,h0⟩ fun st e a1 w1 hst hr=> ?_)
  cases st with
  |norm s1 μ1=>
    cases e<;>simp only[StR]at hr
    obtain⟨G1,R2,E2,hn2,hk2,_⟩:=hr
    refine wp_seq (wp_region ?_)
    rw[hrange]
    refine vc ?_
    refine ie (L:=μ.length) (G0:=G) (w0:=w) (T:=aB G w (aP args) μ cargs) (n:=fn.ntmps) (ds:=⟨[],none⟩) (r:=out) hrho hds hkn ?_ ?_ _ hst R2 E2 hn2 hk2
    · intro s3 μ3 a3 w3 G3 hx R3 E3 hn3 hk3
      simp only[Cm,wpOps,ho]
      have hw:Region.wanted o (yielded ops a3.tmps)=true:=by simp[Region.wanted,hgu]
      rw[if_pos hw]
      left
      have hval: ∃(dd:Deferred),(execOp a3.eval o).run P w3= .ok (.defer dd) w3∧ ∀f vs,a3.tmps.getD t undef= .func (.func f) #[] vs→dd={target:= .fn (.func f) vs,args:= #[]}:=by
        obtain⟨hic,_⟩:=aF.1 hx
        have hv:=R3.fr t
        revert hic hv
        generalize s3.fr t=q
        intro hic hv
        cases q<;>simp only[S1,Bool.false_eq_true]at hic
        rename_i f0 caps
        simp only[LVR]at hv
        obtain⟨vs,hvs,_⟩:=hv
        refine⟨{target:= .fn (.func f0) vs,args:= #[]},?_,fun f1 vs1 e=> ?_⟩
        · have:a3.eval (.tmp t)= .func (.func f0) #[] vs:=hvs
          simp[execOp,hop,resolve,hcal,hargs,this,Deferred.ofValue]
        · rw[hvs]at e
          injection e with e1 e2 e3
          injection e1 with e1
          rw[e1,e3]
      obtain⟨dd,hrun,hdd⟩:=hval
      unfold Oper.wp
      rw[hrun,Oper.upon_defer,hdst]
      simp only[Act.put,Exit.then]
      exact hbw s3 μ3 {a3 with defers:=dd::a3.defers} w3 G3 (a3.tmps.getD t undef) (aF.1 hx).2 dd hdd ⟨R3,E3,hn3,⟨by rw[hk3.1],fun t' v' e=>by injection e with e;injection e with e1 e2;subst e1;exact e2⟩,h0⟩
    · intro v s3 μ3 pv3 a3 w3 G3 hx
      cases hx
  |exit i s1 μ1=>simp at hst
  |ret s1 μ1=>simp at hst
  |panic v s1 μ1=>simp at hst
def vn (E:Env)(W0:World):Prop:= ∀f g,E.prim f=some g→ ∀args μ out,g args μ=some out→cR E.P W0 f args μ out
theorem A2 {E:Env}(hm:E.P.follows .mixedOrders=true)(hp:vn E W0): ∀n,d7 E.P W0 (evn E n)∧lm E.P W0 (evn E n)∧nA E.P W0 (evn E n)∧wB E.P W0 (evn E n)
  |0=>⟨fun f args μ out h=>by simp[evn]at h,fun H lv c s μ st h=>by simp[evn]at h,fun H lv c s μ st h=>by simp[evn]at h,fun f pv args μ μ' h=>by simp[evn]at h⟩
  |n+1=>by
    obtain⟨h1,h2,h3,h4⟩:=A2 hm hp n
    refine⟨fun f args μ out h=> ?_,fun H lv c s μ st h L G w a Q T G0 w0 k ds hc hkn hs hQ=>Ft hm h1 h2 h3 h hc hkn hs hQ,fun H lv c s μ st h L G w a Q T G0 w0 k ds hc hkn hs hQ=>My hm h1 h2 h3 h hc hkn hs hQ,fun f pv args μ μ' h=> ?_⟩
    · simp only[evn,aD]at h
      split at h
      · rename_i g hg
        exact hp f g hg args μ out h
      · split at h<;>try(simp at h;done)
        rename_i fn hf
        split at h<;>try(simp at h;done)
        rename_i c hb
        split at h
        · exact FU hm h1 h2 h3 hf hb h
        · exact C7 hm h1 h2 h3 h4 hf hb h
    · simp only[evn,gY]at h
      split at h<;>try(simp at h;done)
      rename_i fn hf
      split at h<;>try(simp at h;done)
      rename_i c hb
      exact DF hm h1 h2 h3 hf hb h
end
end Go.Abs
