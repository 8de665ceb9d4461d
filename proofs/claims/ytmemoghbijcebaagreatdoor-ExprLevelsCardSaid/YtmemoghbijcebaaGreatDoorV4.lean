/-
  The statement ExprLevelsCardSaid, proved; part 5 of 11 of its proof.
  The hints of each function, and what reads a struct. Printed by a program.
  Library contracts at this program, laid by the shelf's tool; a part of them.
-/
import Derived.Test.YtmemoghbijcebaaGreatDoorV3
import Derived.Recover
import Derived.ProofKit
import Derived.KernelRfl
import Derived.Below
import Derived.Lib.MapU
import Derived.Lib.AtoiAll
import Derived.Lib.ItoaNum
import Derived.Lib.IndexAny
import Derived.Lib.IndexMore
import Derived.Lib.Replace
import Derived.Lib.TrimByte
import Derived.Test.YtmemoghbijcebaaGreatDoorProg
import Derived.Shelf.Strings.Builder1
import Derived.Shelf.Strings.Builder2
import Derived.Shelf.Strings.OnBuilder
import Derived.Shelf.Strings.Trim
import Derived.Shelf.Small.Utf8
import Derived.Shelf.Small.Strs
import Derived.Shelf.Strings.BuilderF
import Derived.Shelf.Strings.BuilderK
import Derived.Shelf.Strings.BuilderRune
import Derived.Shelf.Utf8.RuneCount
import Derived.Shelf.Strings.Builder2Cap
import Derived.Shelf.Strconv.Atoi
import Derived.Shelf.Strconv.Itoa0
import Derived.Shelf.Strconv.Itoa1
import Derived.Shelf.LaysM
import Derived.Shelf.Strconv.Itoa2
import Derived.Shelf.Strconv.Itoa3
import Derived.Shelf.Strconv.AtoiErrFast
import Derived.Shelf.Strconv.ParseIntEmpty
import Derived.Shelf.Strconv.AtoiFail
import Derived.Shelf.Strconv.Clone
import Derived.Shelf.Strconv.SyntaxError
import Derived.Shelf.LaysC
import Derived.Shelf.Strconv.ToError
import Derived.Shelf.Strconv.Lower
import Derived.Shelf.Strconv.ParseUint10
import Derived.Shelf.Strconv.ParseUint10Empty
import Derived.Shelf.Strconv.ParseUint10Any
import Derived.Shelf.Strconv.ParseInt10
import Derived.Shelf.Strconv.AtoiLong
import Derived.Shelf.Strconv.AtoiInnerAll
import Derived.Shelf.Strconv.RangeError
import Derived.Shelf.Strconv.ToErrorRange
import Derived.Shelf.Strconv.AtoiAll
import Derived.Shelf.Strconv.ErrVarAll
import Derived.Shelf.Strings.Search1
import Derived.Shelf.Strings.Search2
import Derived.Shelf.Strings.Search3
import Derived.Shelf.Strings.Count
import Derived.Shelf.Strings.Shaped
import Derived.Shelf.GgClosure.StringsIndexFunc
import Derived.Ground.GgwProg
import Derived.Shelf.GgClosure.StringsIndexFuncTop
import Derived.Shelf.Strings.Prefix
import Derived.Shelf.Strings.Split
import Derived.Shelf.Strings.Replace
import Derived.Shelf.Strings.SplitShaped
import Derived.Shelf.Unicode.Latin
import Derived.Shelf.Unicode.Decode
import Derived.Shelf.Strings.Runes
import Derived.Shelf.Strings.RuneCount
import Derived.Shelf.Strings.AsciiSet
import Derived.Shelf.Unicode.DecodeSlow
import Derived.Shelf.Unicode.DecodeAny
import Derived.Shelf.Unicode.DecodeLast
import Derived.Shelf.Unicode.CaseLookup
import Derived.Shelf.Unicode.CaseConvert
import Derived.Shelf.Unicode.CaseTo
import Derived.Shelf.Unicode.CaseLaid
import Derived.Shelf.Strings.MapAny
import Derived.Shelf.Strings.CaseAny
import Derived.Shelf.Strings.FuncGrows
import Derived.Shelf.Strings.BuilderCap
import Derived.Lib.CaseU
import Derived.Lib.SmallJoins
import Derived.Lib.SplitLaws
import Derived.Lib.DecodeN
import Derived.Test.YtmemoghbijcebaaGreatDoorRows
import Derived.PinnedBridge
import Derived.Lib.LaidU8T
import Derived.Stop.LaidErr
import Derived.Shelf.Vars
import Derived.Great.CaseRows
import Derived.Lib.LaidIn
import Derived.Deep.DeepHandedRow
import Derived.Deep.DeepWitnessRowRef
set_option linter.all false
namespace Go.Abs
open Go
section
variable {P:Program}{W0:World}{ρ:Rho}{L:Nat}{G G':Gh}{w w':World}{s:S}{μ μ':Mu}{tm:Array Value}
def Ia (N:Act->World->Prop)(Q:Exit->Act->World->Prop):Exit->Act->World->Prop
 | .normal,a,w=>N a w|e,a,w=>Q e a w
def Af {ops:Array Oper}{Q:Exit->Act->World->Prop}{l2:List Nat}: ∀{l1:List Nat} {a:Act} {w:World},wpOps P ops (Ia (wpOps P ops Q l2) Q) l1 a w->wpOps P ops Q (l1++l2) a w
 |[],a,w,h=>h|i::l1,a,w,h=>by
  rw[ew,wpOps_cons];rw[wpOps_cons]at h;have h:=wpOp_mono (λa w=>Af (l1:=l1)) h;unfold wpOp at h |-;split at h
  ·exact h
  ·split at h
   ·rename_i hw;rw[bK hw];rcases h with h|⟨h1,a',w',h2⟩
    ·left;unfold Oper.wp at h |-;generalize(execOp a.eval _).run P w=r at*;cases r with
     |ok n w'=>
      cases n<;>simp only[Oper.upon]at h |- <;>first
       |exact h
       | (refine Go.Calls.mono h λe w'' he => ?_
          cases e with
          |returned v=>exact he|panicked ch=>exact he
          |outgrown=>obtain⟨a',w',h2⟩:=he;exact⟨a',w',h2⟩)
     |halt x w'=>cases x<;>simp only[Oper.upon]at h |- <;>exact h
    ·exact .inr ⟨h1,a',w',h2⟩
   simp_all
def kY {ops:Array Oper}{Q:Exit->Act->World->Prop}{Q':Exit->Act->List Frame->World->Prop}{cs:List Frame}(hQ: ¬LetsOut Q)(hq: ∀e a w,Q e a w->Q' e a cs w): ∀{l:List Nat} {a:Act} {w:World},wpOps P ops Q l a w->wpOpsS P ops Q' l a cs w
 |[],a,w,h=>hq _ _ _ h|i::l,a,w,h=>by
  simp only[wpOps]at h;simp only[wpOpsS];cases ho:ops[i]? with
  |none=>rw[ho]at h;exact kY hQ hq h|some o=>
   rw[ho]at h;simp only at h |-;split at h
   ·rename_i hw;rw[bK hw];rcases h with h|⟨_,h⟩
    rotate_left
    ·simp_all
    unfold Oper.wp at h;generalize(execOp a.eval o).run P w=r at*;cases r with
    |ok n w'=>
     cases n with
     |value v=>exact kY hQ hq h|skip=>exact kY hQ hq h|defer d=>exact kY hQ hq h|enter f args=>
      refine Go.Calls.mono h λe w'' he=> ?_;cases e with|returned v=>exact kY hQ hq he|panicked ch=>exact hq _ _ _ he|outgrown=>exact absurd he hQ
     |row row args=>exact Rows.mono h λv w'' he=>kY hQ hq he|_=>exact h.elim
    |halt x w'=>
     cases x with|panic v=>exact hq _ _ _ h|_=>exact h.elim
   ·rename_i hw;rw[bE hw];exact kY hQ hq h
def XC {c:Code}{Q Q':Exit->Act->List Frame->World->Prop}{a:Act}{cs:List Frame}{w:World}(hq: ∀e a cs w,Q e a cs w->Q' e a cs w)(h:c.wpS P Q a cs w):c.wpS P Q' a cs w:=
 λb k hb hr=>let⟨e,a',cs',w',q,r⟩:=h b k hb hr;⟨e,a',cs',w',hq _ _ _ _ q,r⟩
def vd (pv:Option CV)(cpv:Value):FrameMode:=match pv with|some _=> .panicking [{v:=cpv,recovered:=false}]|none=> .returning
def iW (pv:Option CV)(cpv:Value):FrameMode:=match pv with|some _=> .panicking [{v:=cpv,recovered:=true}]|none=> .returning
def HF {pv:Option CV}{cpv:Value}:settle (iW pv cpv)= .returning:=by cases pv<;>simp[iW,settle]
def Sd (P:Program)(W0:World)(f:FuncId)(pv:Option CV)(args:List LV)(μ μ':Mu):Prop:=
 (∃fn c,P.funcs[f]? =some fn/\fn.body=some c/\(fn.name == "runtime.NumGoroutine")=false)/\
 ∀(G:Gh) (w:World) (cargs:Array Value) (cpv:Value),cargs.size=args.length->Rel G μ.length (ck args) μ cargs w->(∀v,pv=some v->VR G w v cpv)->Kn W0 w (bH G w (ck args) μ cargs)->
  CallsD P f cargs (vd pv cpv) w λe u' w'=> ∃v,e= .returned v/\u'=iW pv cpv/\
   ∃O',Rel (G.withO O') μ.length (ck []) μ' #[] w'/\Ext μ.length (bH G w (ck args) μ cargs) G w (G.withO O') w' (bH (G.withO O') w' (ck []) μ' #[])
def BY (P:Program)(W0:World)(ρ:Rho):Prop:= ∀f pv args μ μ',ρ.dcall f pv args μ=some μ'->Sd P W0 f pv args μ μ'
def Fz {o:Oper}(h:zh o=true):o.guard=none/\ ∃c,o.op= .call c/\c.callee= .builtin .recover:=by unfold zh at h;grind
def Jd (hm:P.follows .mixedOrders=true)(hrho:gN P W0 ρ)(hloop:pt P W0 ρ)(hseg:sx P W0 ρ){H:Hints}{f:FuncId}{fn:Func}{c:Code}{pv:Option CV}{args:List LV}(hf:P.funcs[f]? =some fn)(hb:fn.body=some c)
 (h:uU P ρ H fn c pv args μ=some μ'):Sd P W0 f pv args μ μ':=by
 unfold uU at h;split at h<;>try(cases h;done)
 rename_i id ops draw b;split at h<;>try(cases h;done)
 split at h<;>try(cases h;done)
 rename_i o ho;obtain⟨hg,h⟩:=bM.1 h;simp only[cM,jv]at hg;obtain⟨⟨⟨⟨⟨hg1,hg2⟩,hg3⟩,hg4⟩,hg5⟩,hg6⟩:=hg;have hg1:=fO hg1;refine⟨⟨fn,_,hf,hb,hg4⟩,λG w cargs cpv hsz R hpv hkn=> ?_⟩;obtain⟨hgu,cc,hop,hcal⟩:=Fz hg5;have hsize:(cargs++Array.replicate (fn.ntmps-cargs.size) undef).size=fn.ntmps:=cr;obtain⟨R1,hO⟩:=R.retm (tm':=cargs++Array.replicate (fn.ntmps-cargs.size) undef) λt=>by
  by_cases ht:t<cargs.size
  ·right;simp[d7,ES ht]
  ·left;rw[eJ,fq bu];rfl
 have h0:G.n μ.length=0:=by simpa[ck]using R.nL
 have E1:Ext μ.length (bH G w (ck args) μ cargs) G w G w (bH G w (ck args) μ (cargs++Array.replicate (fn.ntmps-cargs.size) undef)):=Ext.refl G w λb hb=>by
  rcases hb with⟨q,hb⟩|hb
  ·exact .inl ⟨q,(hO q b).1 hb⟩
  ·exact .inr hb
 refine callsD_of_wpS hf hb λc₀ cs hc₀=> ?_;let A:Act:={tmps:=cargs++Array.replicate (fn.ntmps-cargs.size) undef,defers:=[]};let rv:Value:=match pv with|some _=>cpv|none=> .nilIface
 let c1:Frame:={c₀ with mode:=iW pv cpv};have hds: ∀(i:Nat) (o:Oper),ops[i]? =some o-> ∀d,o.dst=some d->d<fn.ntmps/\(Keep.mk [] none).lets d:=λi o ho d hd=>o7 (ds:=⟨[],none⟩) hg2 (by simpa using ho) d hd
 obtain ⟨R2, E2⟩ := ex (a := A) (dst := o.dst) (v := KX pv) (cv := rv) (w := w) R1 E1 (by
  cases pv with
  |none=>simp[KX,rv,LVR,VR]
  |some v=>simpa[KX,rv,LVR]using hpv v rfl) (λb hb=>by cases pv<;>simp[KX,bZ]at hb) (λd hd=>by rw[show A.tmps=_ from rfl,hsize];exact(hds 0 o ho d hd).1)
 have hpos:0<ops.size:=(qZ.1 ho).1;have hrange:List.range ops.size=0::List.range' 1 (ops.size-1):=by
  rw[List.range_eq_range']
  conv=>lhs;rw[show ops.size=(ops.size-1)+1 by omega]
  rw[List.range'_succ]
 let Q:Exit->Act->World->Prop:=λe a w'=>match e with
  | .normal| .ret=>a.defers=[]/\(∃v,(results fn a.tmps).run P w'= .ok v w')/\ ∃O',Rel (G.withO O') μ.length (ck []) μ' #[] w'/\Ext μ.length (bH G w (ck args) μ cargs) G w (G.withO O') w' (bH (G.withO O') w' (ck []) μ' #[])|_=>False
 have hlets: ∀N,¬LetsOut (Ia N Q):=λN ⟨a,w,h⟩=>h;have fin: ∀(s':S) (a':Act) (w':World) (G':Gh),lS μ.length (bH G w (ck args) μ cargs) G w fn.ntmps ⟨[],none⟩ s' μ' a' w' G'->
  a'.defers=[]/\(∃v,(results fn a'.tmps).run P w'= .ok v w')/\ ∃O',Rel (G.withO O') μ.length (ck []) μ' #[] w'/\Ext μ.length (bH G w (ck args) μ cargs) G w (G.withO O') w' (bH (G.withO O') w' (ck []) μ' #[]):=by
  intro s' a' w' G' hs;obtain⟨R',E',_,hd,_⟩:=hs;refine⟨hd.1,?_,?_⟩
  ·have he:fn.results= #[]:=by simpa using hg6
   exact⟨.tuple #[],by simp[results,he]⟩
  ·obtain⟨R3,E3,_⟩:=R'.leave (vs:=[]) (tmr:= #[]) E' h0 R.ngt (λj x hx=>by simp at hx) (λj x b hx=>by simp at hx);exact⟨_,R3,E3⟩
 have hbw: ∀(s':S) (μ1:Mu) (a':Act) (w':World) (G':Gh),(dP P ρ H b s' μ1 λst=>match st with| .norm s μ=>some μ| .ret s μ=>some μ|_=>none)=some μ'->lS μ.length (bH G w (ck args) μ cargs) G w fn.ntmps ⟨[],none⟩ s' μ1 a' w' G'->b.wp P Q a' w':=by
  intro s' μ1 a' w' G' hx hs;refine gb hm hrho hloop hseg (L:=μ.length) (G0:=G) (w0:=w) (n:=fn.ntmps) (ds:=⟨[],none⟩) b hg3 hkn hx hs λst e a2 w2 hst hr=> ?_;cases st with
  |norm s2 μ2=>simp only[bJ]at hst;subst hst;cases e<;>simp only[StR]at hr;grind|ret s2 μ2=>simp only[bJ]at hst;subst hst;cases e<;>simp only[StR]at hr;obtain⟨G2,hs2⟩:=hr;exact fin s2 a2 w2 G2 hs2
  |exit i s2 μ2=>simp at hst|panic v s2 μ2=>simp at hst
 have hops:wpOps P ops (Ia (b.wp P Q) Q) (List.range' 1 (ops.size-1)) (A.put o.dst rv) w:=by
  refine ll (L:=μ.length) (G0:=G) (w0:=w) (T:=bH G w (ck args) μ cargs) (n:=fn.ntmps) (ds:=⟨[],none⟩) (r:=μ') hrho hds hkn ?_ ?_ _ h R2 E2 (by rw[(nN A o.dst rv).1];exact hsize) (Keep.put ⟨rfl,λ_ _ e=>by cases e⟩ λd hd=>(hds 0 o ho d hd).2)
  ·intro s1 μ1 a1 w1 G1 hx R' E' hn' hd';exact hbw s1 μ1 a1 w1 G1 hx ⟨R',E',hn',hd',h0⟩
  ·intro v s1 μ1 pv1 a1 w1 G1 hx;cases hx
 refine wpS_seq (wpS_region ?_);rw[hrange];simp only[wpOpsS,ho];have hw:Region.wanted o (yielded ops A.tmps)=true:=by simp[Region.wanted,hgu]
 rw[bK hw];have hrun:(execOp A.eval o).run P w= .ok .recover w:=by simp[execOp,hop,resolve,hcal,invoke,builtin]
 have hrec:recoverD (c₀::cs)=(match pv with|some _=>some (cpv,c1::cs)|none=>none):=by
  cases pv with|none=>simp[recoverD,hc₀,vd]|some v=>simp[recoverD,hc₀,vd,c1,iW]
 rw[hrun];simp only
 have key : wpOpsS P ops (Exit.thenS (b.wpS P (bodyPostS P fn c₀ cs λe u' w' => ∃ v, e = .returned v /\ u' = iW pv cpv /\
  ∃O',Rel (G.withO O') μ.length (ck []) μ' #[] w'/\Ext μ.length (bH G w (ck args) μ cargs) G w (G.withO O') w' (bH (G.withO O') w' (ck []) μ' #[])))
  (bodyPostS P fn c₀ cs λe u' w' => ∃ v, e = .returned v /\ u' = iW pv cpv /\
  ∃O',Rel (G.withO O') μ.length (ck []) μ' #[] w'/\Ext μ.length (bH G w (ck args) μ cargs) G w (G.withO O') w' (bH (G.withO O') w' (ck []) μ' #[])))
  (List.range' 1 (ops.size-1)) (A.put o.dst rv) (c1::cs) w:=by
  refine kY (hlets _) ?_ hops;intro e a1 w1 hq;cases e with
  |normal=>
   simp only[Exit.thenS];refine XC ?_ (wpS_of_wp (cs:=c1::cs) (Q:=λe a cs' w=>cs'=c1::cs/\Q e a w) (Code.wp_mono (λe a w h=>⟨rfl,h⟩) hq));rintro e a2 cs2 w2 ⟨rfl,hq2⟩;cases e with
   |normal=>obtain⟨h1,⟨v,h2⟩,h3⟩:=hq2;exact⟨h1,_,rfl,v,h2,v,rfl,rfl,h3⟩
   |ret=>obtain⟨h1,⟨v,h2⟩,h3⟩:=hq2;exact⟨h1,_,rfl,v,h2,v,rfl,rfl,h3⟩
   |_=>exact hq2.elim
  |ret=>obtain⟨h1,⟨v,h2⟩,h3⟩:=hq;exact⟨h1,_,rfl,v,h2,v,rfl,rfl,h3⟩
  |_=>exact hq.elim
 cases pv with
 |none=>
  rw[hrec];have e1:c1=c₀:=by simp only[c1,iW];rw[show FrameMode.returning=c₀.mode from hc₀.symm]
  rw[e1]at key;exact key
 |some v=>rw[hrec];exact key
def Js {t:Nat}{o:Oper}(h:Fy t o=true):o.guard=none/\o.dst=none/\ ∃c,o.op= .defer c/\c.callee= .value (.tmp t)/\c.args= #[]:=by
 unfold Fy at h;split at h<;>try(cases h;done)
 rename_i c hg hd ho;split at h<;>try(cases h;done)
 rename_i u hc;split at h<;>try(cases h;done)
 simp_all
def Fq {T:Nat->Prop}{G0:Gh}{w0:World}(hd:BY P W0 ρ){t:Nat}{pv:Option CV}{α:Type}{k:S->Mu->Option α}{r:α}(h:oL ρ t pv s μ k=some r)(R:Rel G L s μ tm w)(E0:Ext L T G0 w0 G w (bH G w s μ tm))
 (hkn:Kn W0 w0 T) {cpv:Value} (hpv: ∀v,pv=some v->VR G w v cpv):
 ∃f vs,tm.getD t undef= .func (.func f) #[] vs/\(∃fn c,P.funcs[f]? =some fn/\fn.body=some c/\(fn.name == "runtime.NumGoroutine")=false)/\
  CallsD P f vs (vd pv cpv) w λe u' w'=> ∃v,e= .returned v/\u'=iW pv cpv/\ ∃s' μ' G',k s' μ'=some r/\Rel G' L s' μ' tm w'/\Ext L T G0 w0 G' w' (bH G' w' s' μ' tm):=by
 unfold oL at h;split at h<;>try(cases h;done)
 rename_i f caps hfr;obtain⟨args',ha,h⟩:=bz.1 h;obtain⟨l,hlm,h⟩:=bz.1 h;obtain⟨μ2,hdc,h⟩:=bz.1 h;obtain⟨q,hq,hk9⟩:=bz.1 h;have hq':=xg hq;clear hq h;subst hq';have hv:=R.fr t;rw[hfr]at hv;simp only[LVR]at hv;obtain⟨vs,hvs,hcaps⟩:=hv;obtain⟨hfn,hM⟩:=hd _ _ _ _ _ hdc;refine⟨f,vs,hvs,hfn,?_⟩;have hμ:=R.lev;rw[hμ]at ha hlm;obtain⟨hcl,hcg⟩:=vV hcaps;have A:ArgsR G w L s tm [] caps vs:=by
  refine⟨by simpa using hcl.symm,λj x hx=> ?_,λj x b hx hob=> ?_⟩
  ·obtain⟨v,hv,hr,_⟩:=hcg j x hx;simp_all
  ·obtain⟨v,hv,hr,hne⟩:=hcg j x hx;exact absurd hob (sw hne)
 obtain⟨Re,hown,hlive⟩:=R.enterP A ha hlm;have hT: ∀b,bH (G.push L s.lam.length) w (ck args') (μ++[l]) vs b-> ∀t,¬bZ (s.fr t) (tm.getD t undef) b:=by
  rintro b (⟨q,hb⟩|⟨lev,i,hb,rfl⟩) t ht
  ·rcases hown q b hb with⟨j,x,rfl,hx,ho⟩|⟨lev,i,k,rfl,ho⟩
   ·obtain⟨⟨u,hu,_⟩,_⟩:=A.own j x b hx ho;simp at hu
   ·have:=R.own (.fr t) _ b ht ho;cases this
  ·exact R.apart (.fr t) _ lev i ht (hlive lev i hb) rfl
 have hT0: ∀b,bH (G.push L s.lam.length) w (ck args') (μ++[l]) vs b->bH G w s μ tm b:=by
  rintro b (⟨q,hb⟩|⟨lev,i,hb,rfl⟩)
  ·rcases hown q b hb with⟨j,x,rfl,hx,ho⟩|⟨lev,i,k,rfl,ho⟩
   ·obtain⟨⟨u,hu,_⟩,_⟩:=A.own j x b hx ho;simp at hu
   ·exact .inl ⟨_,ho⟩
  ·exact .inr ⟨lev,i,hlive lev i hb,rfl⟩
 have hnL: ∀i,i<G.n L->i<s.lam.length:=λi hi=>by have:=R.nL;split at this<;>omega
 have hcall:=hM (G.push L s.lam.length) w vs cpv (by rw[A.size,(kJ ha).1]) (by rw[cC,hμ];exact Re) (λv e=>cZ (pr hnL) v _ (hpv v e)) ((hkn.ext E0).mono hT0);rw[show (μ++[l]).length=L+1 by simp[hμ]]at hcall;refine hcall.mono ?_;rintro e u' w' ⟨v,rfl,rfl,O',Rc,E⟩;refine⟨v,rfl,rfl,{s with lam:=q.2,pushed:=true},q.1,(G.push L s.lam.length).withO O',hk9,?_⟩;obtain⟨R2,h2,h3⟩:=R.mergeP (O':=O') hT rfl Rc E;have hin: ∀b,bH ((G.push L s.lam.length).withO O') w' (ck []) (q.1++[q.2]) #[] b->(bH G w s μ tm b\/w.heap.size<=b):=λb hb=>(E.grow b hb).imp (hT0 b) id;refine⟨R2,E0.trans ⟨(pr hnL).trans E.le,E.os,E.tape,E.output,E.size,λb hb hn=>E.keep b hb λhh=>hn (hT0 b hh),λb hb=> ?_,λlv hlv=> ?_⟩⟩
 ·rcases hb with⟨q',hb⟩|⟨lev,i,hb,rfl⟩
  ·rcases h2 q' b hb with⟨_,_,h4⟩|⟨_,h4⟩
   ·exact .inl (.inl ⟨q',h4⟩)
   ·exact hin b (.inl ⟨q',h4⟩)
  ·exact hin _ (.inr ⟨lev,i,h3 lev i hb,rfl⟩)
 ·refine⟨λ_=>⟨rfl,rfl⟩,?_⟩;simp only[Gh.withO,Gh.push];rw[bE bu]
def IJ (hm:P.follows .mixedOrders=true)(hrho:gN P W0 ρ)(hloop:pt P W0 ρ)(hseg:sx P W0 ρ)(hdc:BY P W0 ρ){H:Hints}{f:FuncId}{fn:Func}{c:Code}{t:Nat}{args:List LV}{out:Out}(hf:P.funcs[f]? =some fn)(hb:fn.body=some c)
 (h:uP P ρ H fn c t args μ=some out):fk P W0 f args μ out:=by
 unfold uP at h;split at h<;>try(cases h;done)
 rename_i ca id ops draw cb;split at h<;>try(cases h;done)
 split at h<;>try(cases h;done)
 rename_i o ho;obtain⟨hg,h⟩:=bM.1 h;simp only[cM,jv]at hg;obtain⟨⟨⟨⟨⟨hg1,hg2⟩,hg3⟩,hg4⟩,hg5⟩,hg6⟩:=hg;have hg1:=fO hg1;obtain⟨hgu,hdst,cc,hop,hcal,hargs⟩:=Js hg6;refine⟨⟨fn,_,hf,hb,hg5⟩,λG w cargs hsz R hkn=> ?_⟩;refine calls_of_wp_defers hf hb ?_;have hsize:(cargs++Array.replicate (fn.ntmps-cargs.size) undef).size=fn.ntmps:=cr;obtain⟨R1,hO⟩:=R.retm (tm':=cargs++Array.replicate (fn.ntmps-cargs.size) undef) λt=>by
  by_cases ht:t<cargs.size
  ·right;simp[d7,ES ht]
  ·left;rw[eJ,fq bu];rfl
 have h0:G.n μ.length=0:=by simpa[ck]using R.nL
 have E1:Ext μ.length (bH G w (ck args) μ cargs) G w G w (bH G w (ck args) μ (cargs++Array.replicate (fn.ntmps-cargs.size) undef)):=Ext.refl G w λb hb=>by
  rcases hb with⟨q,hb⟩|hb
  ·exact .inl ⟨q,(hO q b).1 hb⟩
  ·exact .inr hb
 have hpos:0<ops.size:=by have:=(qZ.1 ho).1;omega
 have hrange:List.range ops.size=List.range (ops.size-1)++[ops.size-1]:=by
  conv=>lhs;rw[show ops.size=(ops.size-1)+1 by omega]
  rw[Pv]
 have fin: ∀(pv:Option CV) (cpv:Value) (s':S) (μ':Mu) (a':Act) (w':World) (G':Gh) (vs0:Value),oL ρ t pv s' μ' (λs μ=>kx P fn.results.toList s μ)=some out->(∀v,pv=some v->VR G' w' v cpv)->
  ∀d:Deferred,(∀f vs,vs0= .func (.func f) #[] vs->d={target:= .fn (.func f) vs,args:= #[]})->lS μ.length (bH G w (ck args) μ cargs) G w fn.ntmps ⟨[d],some (t,vs0)⟩ s' μ' a' w' G'->
  Leaves P fn a'.tmps (jE μ.length (bH G w (ck args) μ cargs) G w out) a'.defers (vd pv cpv) w':=by
  intro pv cpv s' μ' a' w' G' vs0 hdk hpv d hd hs;obtain⟨R',E',_,⟨hk1,hk2⟩,_⟩:=hs;obtain⟨f',vs,hval,⟨fn',c',hf',hb',hn'⟩,hcall⟩:=Fq hdc hdk R' E' hkn hpv;have hv0:=hk2 t vs0 rfl;rw[hval]at hv0;have hd:=hd f' vs hv0.symm;subst hd;rw[hk1];refine⟨by cases pv<;>simp[vd],.func f',vs,f',vs,rfl,?_,?_⟩
  ·simp only[invoke,callFunc,dc,run_program,df,hf',hn',hb',Option.isNone_some,eD,dG,Array.empty_append,eW]
  ·refine hcall.mono ?_;rintro e u' w2 ⟨v,rfl,rfl,s2,μ2,G2,hk,R2,E2⟩;simp only;rw[HF];simp only[Leaves];exact y6 hk R2 E2 h0 R.ngt
 have hbw: ∀(s':S) (μ1:Mu) (a':Act) (w':World) (G':Gh) (vs0:Value),dP P ρ H cb s' μ1 (Ft P ρ t fn.results.toList)=some out->
  ∀d:Deferred,(∀f vs,vs0= .func (.func f) #[] vs->d={target:= .fn (.func f) vs,args:= #[]})->lS μ.length (bH G w (ck args) μ cargs) G w fn.ntmps ⟨[d],some (t,vs0)⟩ s' μ1 a' w' G'->
  cb.wp P (bodyPostD P fn (jE μ.length (bH G w (ck args) μ cargs) G w out)) a' w':=by
  intro s' μ1 a' w' G' vs0 hx d hd hs;refine gb hm hrho hloop hseg (L:=μ.length) (G0:=G) (w0:=w) (n:=fn.ntmps) (ds:=⟨[d],some (t,vs0)⟩) cb hg4 hkn hx hs λst e a2 w2 hst hr=> ?_;cases st with
  |norm s2 μ2=>cases e<;>simp only[StR]at hr;obtain⟨G2,hs2⟩:=hr;exact fin none undef s2 μ2 a2 w2 G2 vs0 hst (λv hv=>by cases hv) d hd hs2
  |ret s2 μ2=>cases e<;>simp only[StR]at hr;obtain⟨G2,hs2⟩:=hr;exact fin none undef s2 μ2 a2 w2 G2 vs0 hst (λv hv=>by cases hv) d hd hs2
  |exit i s2 μ2=>simp[Ft]at hst|panic v s2 μ2=>cases e<;>simp only[StR]at hr;obtain⟨G2,pv,rfl,hv,hs2⟩:=hr;exact fin (some v) pv s2 μ2 a2 w2 G2 vs0 hst (λv' hv'=>by injection hv' with hv';subst hv';exact hv) d hd hs2
 have hds: ∀(i:Nat) (o:Oper),ops[i]? =some o-> ∀d,o.dst=some d->d<fn.ntmps/\(Keep.mk [] none).lets d:=λi o ho d hd=>o7 (ds:=⟨[],none⟩) hg3 (by simpa using ho) d hd;refine wp_seq (gb hm hrho hloop hseg (L:=μ.length) (T:=bH G w (ck args) μ cargs) (G0:=G) (w0:=w) (n:=fn.ntmps) (ds:=⟨[],none⟩) ca hg2 hkn h ⟨R1,E1,hsize,⟨rfl,λ_ _ e=>by cases e⟩,h0⟩ λst e a1 w1 hst hr=> ?_);cases st with
 |norm s1 μ1=>
  cases e<;>simp only[StR]at hr;obtain⟨G1,R2,E2,hn2,hk2,_⟩:=hr;refine wp_seq (wp_region ?_);rw[hrange];refine Af ?_;refine ll (L:=μ.length) (G0:=G) (w0:=w) (T:=bH G w (ck args) μ cargs) (n:=fn.ntmps) (ds:=⟨[],none⟩) (r:=out) hrho hds hkn ?_ ?_ _ hst R2 E2 hn2 hk2
  ·intro s3 μ3 a3 w3 G3 hx R3 E3 hn3 hk3;simp only[Ia,wpOps,ho];have hw:Region.wanted o (yielded ops a3.tmps)=true:=by simp[Region.wanted,hgu]
   rw[bK hw];left;have hval: ∃(dd:Deferred),(execOp a3.eval o).run P w3= .ok (.defer dd) w3/\ ∀f vs,a3.tmps.getD t undef= .func (.func f) #[] vs->dd={target:= .fn (.func f) vs,args:= #[]}:=by
    obtain⟨hic,_⟩:=bM.1 hx;have hv:=R3.fr t;revert hic hv;generalize s3.fr t=q;intro hic hv;cases q<;>simp only[XX,eD]at hic;rename_i f0 caps;simp only[LVR]at hv;obtain⟨vs,hvs,_⟩:=hv;refine⟨{target:= .fn (.func f0) vs,args:= #[]},?_,λf1 vs1 e=> ?_⟩
    ·have:a3.eval (.tmp t)= .func (.func f0) #[] vs:=hvs;simp[execOp,hop,resolve,hcal,hargs,this,Deferred.ofValue]
    ·rw[hvs]at e;injection e with e1 e2 e3;injection e1 with e1;rw[e1,e3]
   obtain⟨dd,hrun,hdd⟩:=hval;unfold Oper.wp;rw[hrun,Oper.upon_defer,hdst];simp only[Act.put,Exit.then];exact hbw s3 μ3 {a3 with defers:=dd::a3.defers} w3 G3 (a3.tmps.getD t undef) (bM.1 hx).2 dd hdd ⟨R3,E3,hn3,⟨by rw[hk3.1],λt' v' e=>by injection e with e;injection e with e1 e2;subst e1;exact e2⟩,h0⟩
  ·intro v s3 μ3 pv3 a3 w3 G3 hx;cases hx
 |exit i s1 μ1=>simp at hst|ret s1 μ1=>simp at hst|panic v s1 μ1=>simp at hst
def Am (E:Env)(W0:World):Prop:= ∀f g,E.prim f=some g-> ∀args μ out,g args μ=some out->fk E.P W0 f args μ out
def GI {E:Env}(hm:E.P.follows .mixedOrders=true)(hp:Am E W0): ∀n,gN E.P W0 (evn E n)/\pt E.P W0 (evn E n)/\sx E.P W0 (evn E n)/\BY E.P W0 (evn E n)
 |0=>⟨λf args μ out h=>by simp[evn]at h,λH lv c s μ st h=>by simp[evn]at h,λH lv c s μ st h=>by simp[evn]at h,λf pv args μ μ' h=>by simp[evn]at h⟩|n+1=>by
  obtain⟨h1,h2,h3,h4⟩:=GI hm hp n;refine⟨λf args μ out h=> ?_,λH lv c s μ st h L G w a Q T G0 w0 k ds hc hkn hs hQ=>KZ hm h1 h2 h3 h hc hkn hs hQ,λH lv c s μ st h L G w a Q T G0 w0 k ds hc hkn hs hQ=>Rw hm h1 h2 h3 h hc hkn hs hQ,λf pv args μ μ' h=> ?_⟩
  ·simp only[evn,bN]at h;split at h
   ·rename_i g hg;exact hp f g hg args μ out h
   ·split at h<;>try(simp at h;done)
    rename_i fn hf;split at h<;>try(simp at h;done)
    rename_i c hb;split at h
    ·exact Lt hm h1 h2 h3 hf hb h
    ·exact IJ hm h1 h2 h3 h4 hf hb h
  ·simp only[evn,i6]at h;split at h<;>try(simp at h;done)
   rename_i fn hf;split at h<;>try(simp at h;done)
   rename_i c hb;exact Jd hm h1 h2 h3 hf hb h
end
def Lim {β:Type}(x:Nat->Option β)(y:Option β):Prop:= ∀r,y=some r-> ∃n,∀m,n<=m->x m=some r
section
variable {α β γ:Type}
def Lim.const (y:Option β):Lim (λ_=>y) y:=λr h=>⟨0,λ_ _=>h⟩
def Lim.opt {x:Nat->Option α}{y:Option α}{k:Nat->α->Option β}{kω:α->Option β}(hx:Lim x y)(hk: ∀a,Lim (λn=>k n a) (kω a)):Lim (λn=>opt (x n) (k n)) (opt y kω):=by intro r h;obtain⟨a,h1,h2⟩:=bz.1 h;obtain⟨n,hn⟩:=hx a h1;obtain⟨m,hm⟩:=hk a r h2;exact⟨max n m,λq hq=>bz.2 ⟨a,hn q bu,hm q bu⟩⟩
def Lim.opt' {x:Option α}{k:Nat->α->Option β}{kω:α->Option β}(hk: ∀a,Lim (λn=>k n a) (kω a)):Lim (λn=>Abs.opt x (k n)) (Abs.opt x kω):=Lim.opt (.const x) hk
def Lim.guard {b:Bool}{k:Nat->Option β}{kω:Option β}(hk:Lim k kω):Lim (λn=>bB b (k n)) (bB b kω):=by
 cases b
 ·exact .const _
 ·exact hk
def Lim.cond {b:Bool}{k l:Nat->Option β}{kω lω:Option β}(hk:Lim k kω)(hl:Lim l lω):Lim (λn=>cond b (k n) (l n)) (cond b kω lω):=by
 cases b
 ·exact hl
 ·exact hk
def Lim.none:Lim (λ_=>(none:Option β)) none:= .const _
def Lim.callK {x:Nat->Option Out}{y:Option Out}{k:Nat->LV->Mu->Option β}{kω:LV->Mu->Option β}{p:Nat->CV->Mu->Option β}{pω:CV->Mu->Option β}(hx:Lim x y)
 (hk: ∀v μ,Lim (λn=>k n v μ) (kω v μ)) (hp: ∀v μ,Lim (λn=>p n v μ) (pω v μ)):Lim (λn=>Abs.callK (x n) (k n) (p n)) (Abs.callK y kω pω):=by
 unfold Abs.callK;refine Lim.opt hx λa=> ?_;grind
def GQ {d:TypeDesc}{x:LV}{k:Nat->CV->Option β}{kω:CV->Option β}(hk: ∀c,Lim (λn=>k n c) (kω c)):Lim (λn=>kf d x (k n)) (kf d x kω):=by unfold kf;cases d<;>exact Lim.opt' λ_=>hk _
def w4: ∀{ds:List TypeDesc} {cs:List CV} {k:Nat->List CV->Option β} {kω:List CV->Option β} (hk: ∀c,Lim (λn=>k n c) (kω c)),Lim (λn=>f9 ds cs (k n)) (f9 ds cs kω)
 |[],cs,k,kω,hk=>by unfold f9;exact Lim.opt' λ_=>hk _|d::ds,cs,k,kω,hk=>by unfold f9;exact Lim.opt' λ_=>GQ λ_=>w4 λ_=>hk _
variable {P:Program}
def o0 {t:TypeId}{x:LV}{k:Nat->CV->Option β}{kω:CV->Option β}(hk: ∀c,Lim (λn=>k n c) (kω c)):Lim (λn=>js P t x (k n)) (js P t x kω):=by
 unfold js;cases dz P t
 ·cases P.underlying t
  ·exact .none
  ·exact GQ hk
 ·cases DO P t
  ·exact Lim.opt' λ_=>w4 λ_=>hk _
  ·exact Lim.opt' λ_=>hk _
def D2 {own:Bool}{t:TypeId}{x:LV}{k:Nat->LV->Option β}{kω:LV->Option β}(hk: ∀c,Lim (λn=>k n c) (kω c)):Lim (λn=>nk P own t x (k n)) (nk P own t x kω):=by
 unfold nk;cases own
 ·exact o0 λ_=>hk _
 ·exact Lim.opt' λ_=>hk _
def zl: ∀{ts:List TypeId} {xs:List LV} {k:Nat->List LV->Option β} {kω:List LV->Option β} (hk: ∀c,Lim (λn=>k n c) (kω c)),Lim (λn=>im P ts xs (k n)) (im P ts xs kω)
 |[],xs,k,kω,hk=>by unfold im;exact Lim.opt' λ_=>hk _|t::ts,xs,k,kω,hk=>by unfold im;exact Lim.opt' λ_=>D2 λ_=>zl λ_=>hk _
def oZ {own:Bool}{t:TypeId}{x:LV}{k:Nat->LV->Option β}{kω:LV->Option β}(hk: ∀c,Lim (λn=>k n c) (kω c)):Lim (λn=>eP P own t x (k n)) (eP P own t x kω):=by
 unfold eP;split
 ·exact Lim.opt' λ_=>zl λ_=>hk _
 ·exact D2 hk
def LS {b:Bool}{t:TypeId}{x:LV}{k:Nat->LV->Option β}{kω:LV->Option β}(hk: ∀c,Lim (λn=>k n c) (kω c)):Lim (λn=>oh P b t x (k n)) (oh P b t x kω):=by
 cases b with|true=>exact oZ hk|false=>exact hk _
def TZ {h:OpHint}{t:TypeId}{a:LV}{s:S}{μ:Mu}{k:Nat->LV->S->Mu->Option β}{kω:LV->S->Mu->Option β}(hk: ∀v s μ,Lim (λn=>k n v s μ) (kω v s μ)):Lim (λn=>jA P h t a s μ (k n)) (jA P h t a s μ kω):=by
 unfold jA;split
 ·split
  ·exact .none
  ·split
   ·exact Lim.opt' λ_=>LS λ_=>hk _ _ _
   ·exact Lim.opt' λ_=>hk _ _ _
 ·split
  ·exact Lim.opt' λ_=>Lim.opt' λ_=>hk _ _ _
  ·refine Lim.opt' λ_=> ?_;split
   ·exact Lim.opt' λ_=>oZ λ_=>hk _ _ _
   ·exact Lim.opt' λ_=>oZ λ_=>hk _ _ _
 ·exact .none
def Qz {h:OpHint}{t:TypeId}{a v:LV}{s:S}{μ:Mu}{k:Nat->LV->S->Mu->Option β}{kω:LV->S->Mu->Option β}(hk: ∀v s μ,Lim (λn=>k n v s μ) (kω v s μ)):Lim (λn=>lC P h t a v s μ (k n)) (lC P h t a v s μ kω):=by
 unfold lC;split
 ·split
  ·exact .none
  ·simp only[qg];exact Lim.opt' λ_=>hk _ _ _
 ·split
  ·exact .none
  ·exact Lim.opt' λ_=>Lim.guard (Lim.opt' λ_=>hk _ _ _)
 ·exact .none
def FA {h:OpHint}{t:TypeId}{a:LV}{f:Nat}{k:Nat->LV->Option β}{kω:LV->Option β}(hk: ∀c,Lim (λn=>k n c) (kω c)):Lim (λn=>iS P h t a f (k n)) (iS P h t a f kω):=by
 unfold iS;refine Lim.opt' λ_=> ?_;split
 ·exact hk _
 ·split
  ·exact Lim.opt' λ_=>w4 λ_=>Lim.guard (hk _)
  ·exact Lim.opt' λ_=>hk _
 ·exact .none
def GR {b:Bool}{m:Nat}{c:CV}{k:Nat->LV->Option β}{kω:LV->Option β}(hk: ∀c,Lim (λn=>k n c) (kω c)):Lim (λn=>oM b m c (k n)) (oM b m c kω):=by
 cases b
 ·exact Lim.guard (Lim.guard (hk _))
 ·exact Lim.guard (hk _)
def FB {h:OpHint}{t:TypeId}{a:LV}{i:Int}{k:Nat->LV->Option β}{kω:LV->Option β}(hk: ∀c,Lim (λn=>k n c) (kω c)):Lim (λn=>iU P h t a i (k n)) (iU P h t a i kω):=by
 unfold iU iL;split
 ·refine Lim.opt' λ_=> ?_;split
  ·exact Lim.guard (hk _)
  ·exact Lim.opt' λ_=>o0 λ_=>GR hk
  ·split
   ·exact Lim.opt' λ_=>Lim.opt' λ_=>o0 λ_=>GR hk
   ·exact Lim.opt' λ_=>Lim.guard (hk _)
  ·exact .none
 ·refine Lim.opt' λ_=> ?_;split
  ·exact Lim.guard (hk _)
  ·split
   ·exact Lim.opt' λ_=>Lim.guard (Lim.guard (hk _))
   ·exact Lim.opt' λ_=>Lim.guard (hk _)
  ·exact .none
 ·exact .none
def Qx {t:TypeId}{a:LV}{i:Int}{k:Nat->LV->Option β}{kω:LV->Option β}(hk: ∀c,Lim (λn=>k n c) (kω c)):Lim (λn=>oS P t a i (k n)) (oS P t a i kω):=by
 unfold oS iL;split
 ·exact Lim.opt' λ_=>Lim.opt' λ_=>hk _
 ·split
  ·exact Lim.opt' λ_=>Lim.opt' λ_=>Lim.guard (Lim.opt' λ_=>o0 λ_=>hk _)
  ·exact .none
 ·exact .none
def ir {ev:Operand->LV}{x:Option Operand}{d:Int}{k:Nat->Int->Option β}{kω:Int->Option β}(hk: ∀c,Lim (λn=>k n c) (kω c)):Lim (λn=>fl ev x d (k n)) (fl ev x d kω):=by
 unfold fl;cases x
 ·exact hk _
 ·exact Lim.opt' λ_=>hk _
def Qy {t:TypeId}{x:LV}{lo hi:Option Operand}{ev:Operand->LV}{k:Nat->LV->Option β}{kω:LV->Option β}(hk: ∀c,Lim (λn=>k n c) (kω c)):Lim (λn=>lA P t x lo hi ev (k n)) (lA P t x lo hi ev kω):=by
 unfold lA;split
 ·exact Lim.opt' λ_=>ir λ_=>ir λ_=>Lim.opt' λ_=>hk _
 ·refine Lim.opt' λ_=> ?_;split
  ·exact Lim.opt' λ_=>ir λ_=>ir λ_=>Lim.guard (Lim.opt' λ_=>hk _)
  ·exact ir λ_=>ir λ_=>Lim.guard (Lim.opt' λ_=>hk _)
  ·exact ir λ_=>ir λ_=>Lim.guard (hk _)
  ·exact ir λ_=>ir λ_=>Lim.guard (hk _)
  ·exact .none
 ·exact .none
def LP {h:OpHint}{t:TypeId}{xt:Option TypeId}{x y:LV}{s:S}{μ:Mu}{k:Nat->LV->S->Mu->Option β}{kω:LV->S->Mu->Option β}(hk: ∀v s μ,Lim (λn=>k n v s μ) (kω v s μ)):Lim (λn=>mF P h t xt x y s μ (k n)) (mF P h t xt x y s μ kω):=by
 unfold mF;split
 ·refine Lim.opt' λ_=>Lim.guard (Lim.opt' λ_=>Lim.guard ?_);cases xt
  ·exact .none
  ·cases h.own
   ·refine Lim.opt' λ_=> ?_;split
    ·exact Lim.opt' λ_=>Lim.guard (hk _ _ _)
    ·exact Lim.opt' λ_=>Lim.guard (hk _ _ _)
    ·exact .none
   ·refine Lim.opt' λ_=> ?_;split
    ·exact Lim.opt' λ_=>Lim.opt' λ_=>Lim.guard (hk _ _ _)
    ·exact .none
 ·exact .none
def JA {h:OpHint}{src dst:TypeId}{x:LV}{s:S}{μ:Mu}{k:Nat->LV->S->Mu->Option β}{kω:LV->S->Mu->Option β}(hk: ∀v s μ,Lim (λn=>k n v s μ) (kω v s μ)):Lim (λn=>fy P h src dst x s μ (k n)) (fy P h src dst x s μ kω):=by
 unfold fy;split
 ·split
  ·exact Lim.opt' λ_=>hk _ _ _
  ·exact .none
 ·split
  ·exact Lim.opt' λ_=>hk _ _ _
  ·split
   ·split
    ·split
     ·exact Lim.guard (Lim.opt' λ_=>hk _ _ _)
     ·exact .none
    ·exact Lim.opt' λ_=>Lim.opt' λ_=>hk _ _ _
   ·exact .none
  ·exact .none
 ·split
  ·split
   ·refine Lim.opt' λ_=>Lim.guard ?_;grind
   ·exact .none
  ·exact .none
 ·exact .none
def t6 {live:List (Nat×Nat)}{s:S}{k:Nat->S->Option β}{kω:S->Option β}(hk: ∀s,Lim (λn=>k n s) (kω s)):Lim (λn=>fU live s (k n)) (fU live s kω):=by
 unfold fU;refine Lim.opt' λ_=> ?_;cases s.pushed
 ·exact Lim.opt' λ_=>Lim.opt' λ_=>hk _
 ·exact hk _
def w7 {L:Nat}{live:List (Nat×Nat)}{s:S}{k:Nat->S->Option β}{kω:S->Option β}(hk: ∀s,Lim (λn=>k n s) (kω s)):Lim (λn=>nj L live s (k n)) (nj L live s kω):=by
 unfold nj;split
 ·exact hk _
 ·exact Lim.guard (hk _)
def Lim.optE {x:Option α}{k:Nat->α->Option β}{kω:α->Option β}{g:Nat->Option β}{gω:Option β}(hk: ∀a,Lim (λn=>k n a) (kω a))(hg:Lim g gω):Lim (λn=>Abs.optE x (k n) (g n)) (Abs.optE x kω gω):=by
 cases x with|none=>exact hg|some a=>exact hk a
def Bw {t:TypeId}{m x y:LV}{s:S}{μ:Mu}{k:Nat->LV->S->Mu->Option β}{kω:LV->S->Mu->Option β}(hk: ∀v s μ,Lim (λn=>k n v s μ) (kω v s μ)):Lim (λn=>lL P t m x y s μ (k n)) (lL P t m x y s μ kω):=by
 unfold lL;refine Lim.opt' λ_=>Lim.opt' λ_=>Lim.opt' λ_=> ?_;split
 ·split
  ·exact Lim.guard (hk _ _ _)
  ·exact .none
 ·split
  ·exact Lim.guard (hk _ _ _)
  ·exact .none
 ·exact .none
def LR {t:TypeId}{m x:LV}{ok:Bool}{s:S}{μ:Mu}{k:Nat->LV->Option β}{kω:LV->Option β}(hk: ∀v,Lim (λn=>k n v) (kω v)):Lim (λn=>mT P t m x ok s μ (k n)) (mT P t m x ok s μ kω):=by
 unfold mT iL;refine Lim.opt' λ_=>Lim.opt' λ_=>Lim.opt' λ_=>Lim.guard (Lim.optE (λ_=>o0 λ_=> ?_) (Lim.opt' λ_=> ?_))
 ·grind
 grind
def LQ {x:LV}{t:TypeId}{ok:Bool}{k:Nat->LV->Option β}{kω:LV->Option β}(hk: ∀v,Lim (λn=>k n v) (kω v)):Lim (λn=>mH P x t ok (k n)) (mH P x t ok kω):=by
 unfold mH;split
 ·exact .none
 ·split
  ·exact .none
  ·refine Lim.opt' λ_=> ?_;split
   ·grind
   ·exact hk _
   ·exact .none
 ·exact .none
def Ws {op:BinOp}{t:TypeId}{x y:Operand}{a b:LV}{k:Nat->CV->Option β}{kω:CV->Option β}(hk: ∀c,Lim (λn=>k n c) (kω c)):Lim (λn=>um P op t x y a b (k n)) (um P op t x y a b kω):=by
 unfold um;split
 ·exact Lim.opt' λ_=>Lim.opt' λ_=>Lim.opt' λ_=>hk _
 ·exact Lim.guard (Lim.opt' λ_=>hk _)
def oY: ∀{ms:List Nat} {cs:List LV} {k:Nat->List LV->Option β} {kω:List LV->Option β} (hk: ∀c,Lim (λn=>k n c) (kω c)),Lim (λn=>jK ms cs (k n)) (jK ms cs kω)
 |[],cs,k,kω,hk=>by unfold jK;exact hk _|m::ms,[],k,kω,hk=>by unfold jK;exact .none|m::ms,c::cs,k,kω,hk=>by
  unfold jK Dz;split
  ·exact oY λ_=>hk _
  ·exact Lim.opt' λ_=>oY λ_=>hk _
  ·exact Lim.opt' λ_=>oY λ_=>hk _
  ·exact Lim.opt' λ_=>oY λ_=>hk _
def sS: ∀{obs:List (Nat×List Nat)} {s:S} {k:Nat->S->Option β} {kω:S->Option β} (hk: ∀s,Lim (λn=>k n s) (kω s)),Lim (λn=>pS obs s (k n)) (pS obs s kω)
 |[],s,k,kω,hk=>by unfold pS;exact hk _|q::r,s,k,kω,hk=>by
  unfold pS;split
  ·exact sS hk
  ·split
   ·exact oY λ_=>sS hk
   ·exact .none
structure LimR (ρ:Nat->Rho) (ρω:Rho):Prop where
 call: ∀f args μ,Lim (λn=>(ρ n).call f args μ) (ρω.call f args μ)
 loop: ∀H lv c s μ,Lim (λn=>(ρ n).loop H lv c s μ) (ρω.loop H lv c s μ)
 seg: ∀H lv c s μ,Lim (λn=>(ρ n).seg H lv c s μ) (ρω.seg H lv c s μ)
 dcall: ∀f pv args μ,Lim (λn=>(ρ n).dcall f pv args μ) (ρω.dcall f pv args μ)
variable {ρ:Nat->Rho}{ρω:Rho}
def D0 (R:LimR ρ ρω){h:OpHint}{t:TypeId}{f:FuncId}{args:List LV}{s:S}{μ:Mu}{k:Nat->LV->S->Mu->Option β}{kω:LV->S->Mu->Option β}{p:Nat->CV->S->Mu->Option β}{pω:CV->S->Mu->Option β}
 (hk: ∀v s μ,Lim (λn=>k n v s μ) (kω v s μ)) (hp: ∀v s μ,Lim (λn=>p n v s μ) (pω v s μ)):Lim (λn=>gG P (ρ n) h t f args s μ (k n) (p n)) (gG P ρω h t f args s μ kω pω):=by
 unfold gG;split
 ·exact Lim.guard (Lim.callK (R.call _ _ _) (λ_ _=>oZ λ_=>hk _ _ _) λ_ _=>hp _ _ _)
 ·exact Lim.opt' λ_=>Lim.opt' λ_=>Lim.callK (R.call _ _ _) (λ_ _=>Lim.opt' λ_=>oZ λ_=>hk _ _ _) λ_ _=>Lim.opt' λ_=>hp _ _ _
def JB (R:LimR ρ ρω){h:OpHint}{o:Oper}{s:S}{μ:Mu}{k:Nat->LV->S->Mu->Option β}{kω:LV->S->Mu->Option β}{p:Nat->CV->S->Mu->Option β}{pω:CV->S->Mu->Option β}
 (hk: ∀v s μ,Lim (λn=>k n v s μ) (kω v s μ)) (hp: ∀v s μ,Lim (λn=>p n v s μ) (pω v s μ)):Lim (λn=>dY P (ρ n) h o s μ (k n) (p n)) (dY P ρω h o s μ kω pω):=by
 unfold dY;dsimp only;split
 ·exact hk _ _ _
 ·exact hk _ _ _
 ·exact Lim.opt' λ_=>hk _ _ _
 ·exact Lim.opt' λ_=>hk _ _ _
 ·split
  ·simp only[oI];exact Lim.opt' λ_=>hk _ _ _
  ·exact Lim.opt' λ_=>Lim.guard (hk _ _ _)
 ·simp only[tQ];exact Lim.opt' λ_=>hk _ _ _
 ·split
  ·simp only[rZ];refine Lim.opt' λ_=>Lim.guard (Lim.opt' λ_=>Lim.opt' λ_=>Lim.guard (Lim.guard ?_));grind
  ·exact .none
 ·exact TZ hk
 ·exact Qz hk
 ·exact Lim.opt' λ_=>Lim.guard (hk _ _ _)
 ·exact Ws λ_=>hk _ _ _
 ·exact Lim.opt' λ_=>hk _ _ _
 ·exact JA hk
 ·split
  ·exact .none
  ·exact Lim.opt' λ_=>hk _ _ _
  ·exact .none
 ·split
  ·split
   ·exact hk _ _ _
   ·exact .none
  ·exact .none
 ·split
  ·exact Qy λ_=>hk _ _ _
  ·exact .none
 ·exact FA λ_=>hk _ _ _
 ·exact Lim.opt' λ_=>hk _ _ _
 ·exact Lim.opt' λ_=>FB λ_=>hk _ _ _
 ·exact Lim.opt' λ_=>Qx λ_=>hk _ _ _
 ·exact Lim.opt' λ_=>Lim.opt' λ_=>hk _ _ _
 ·split
  ·exact hp _ _ _
  ·exact .none
 ·exact LQ λ_=>hk _ _ _
 ·split
  ·exact .none
  simp_all
 ·split
  ·unfold D3;split
   ·exact Lim.opt' λ_=>Lim.guard (Lim.opt' λ_=>Lim.guard (Lim.opt' λ_=>Lim.guard (hk _ _ _)))
   ·exact .none
  ·exact .none
 ·exact Bw hk
 ·exact Bw hk
 ·exact LR λ_=>hk _ _ _
 ·split
  ·split
   ·split
    ·exact Lim.opt' λ_=>hk _ _ _
    ·exact .none
   ·split
    ·exact LP hk
    ·exact .none
   ·split
    ·unfold DD;split
     ·refine Lim.opt' λ_=> ?_;split
      ·split
       ·exact Lim.guard (Lim.opt' λ_=>Lim.guard (hk _ _ _))
       ·exact .none
      ·exact .none
     ·exact .none
    ·exact .none
   ·split
    ·exact Lim.opt' λ_=>Lim.opt' λ_=>hk _ _ _
    ·exact .none
   ·split
    ·exact Lim.opt' λ_=>Lim.opt' λ_=>hk _ _ _
    ·exact .none
   ·exact .none
  ·refine Lim.guard ?_;split
   ·exact D0 R hk hp
   ·exact D0 R hk hp
   ·exact .none
  ·exact .none
 ·exact .none
def T3 {pl:Pl}{ob:Ob}{s:S}{μ:Mu}{k:Nat->S->Mu->Option β}{kω:S->Mu->Option β}(hk: ∀s μ,Lim (λn=>k n s μ) (kω s μ)):Lim (λn=>iY pl ob s μ (k n)) (iY pl ob s μ kω):=by
 unfold iY;split
 ·exact Lim.guard (hk _ _)
 ·exact Lim.guard (hk _ _)
def TY {t:Nat}{s:S}{μ:Mu}{k:Nat->Pl->Ob->S->Mu->Option β}{kω:Pl->Ob->S->Mu->Option β}(hk: ∀pl ob s μ,Lim (λn=>k n pl ob s μ) (kω pl ob s μ)):Lim (λn=>gI t s μ (k n)) (gI t s μ kω):=by
 unfold gI;split
 ·split
  ·exact Lim.guard (hk _ _ _ _)
  ·exact Lim.none
 ·exact Lim.opt' λ_=>Lim.guard (hk _ _ _ _)
 ·exact Lim.none
def Wt (R:LimR ρ ρω){h:OpHint}{o:Oper}{s:S}{μ:Mu}{k:Nat->LV->S->Mu->Option β}{kω:LV->S->Mu->Option β}{p:Nat->CV->S->Mu->Option β}{pω:CV->S->Mu->Option β}
 (hk: ∀v s μ,Lim (λn=>k n v s μ) (kω v s μ)) (hp: ∀v s μ,Lim (λn=>p n v s μ) (pω v s μ)):Lim (λn=>o6 P (ρ n) h o s μ (k n) (p n)) (o6 P ρω h o s μ kω pω):=by
 unfold o6;split
 ·exact JB R hk hp
 ·exact TY λpl ob s μ=>JB R (λv s μ=>T3 λs μ=>hk v s μ) hp
def FC (R:LimR ρ ρω){h:OpHint}{o:Oper}{s:S}{μ:Mu}{k:Nat->LV->S->Mu->Option β}{kω:LV->S->Mu->Option β}{p:Nat->CV->S->Mu->Option β}{pω:CV->S->Mu->Option β}
 (hk: ∀v s μ,Lim (λn=>k n v s μ) (kω v s μ)) (hp: ∀v s μ,Lim (λn=>p n v s μ) (pω v s μ)):Lim (λn=>opK P (ρ n) h o s μ (k n) (p n)) (opK P ρω h o s μ kω pω):=by
 unfold opK;refine Lim.opt' λ_=> ?_;simp only[pJ];exact Lim.opt' λ_=>Wt R hk hp
def ka (R:LimR ρ ρω){H:Hints}{r:Nat}{ops:Array Oper}{p:Nat->CV->S->Mu->Option β}{pω:CV->S->Mu->Option β}(hp: ∀v s μ,Lim (λn=>p n v s μ) (pω v s μ)):
 ∀(l:List Nat) {s:S} {μ:Mu} {k:Nat->S->Mu->Option β} {kω:S->Mu->Option β} (hk: ∀s μ,Lim (λn=>k n s μ) (kω s μ)),Lim (λn=>gq P (ρ n) H r ops l s μ (k n) (p n)) (gq P ρω H r ops l s μ kω pω)
 |[],s,μ,k,kω,hk=>by unfold gq;exact hk _ _|i::rest,s,μ,k,kω,hk=>by
  unfold gq;cases ops[i]? with
  |none=>exact .none|some o=>
   dsimp only;cases o.guard with
   |none=>exact FC R (λ_ _ _=>ka R hp rest hk) hp|some g=>
    refine Lim.opt' λ_=>Lim.opt' λq=> ?_;cases q with
    |none=>exact ka R hp rest hk|some b=>
    cases b<;>dsimp only[bY,bW]
    ·cases g.2
     ·exact FC R (λ_ _ _=>ka R hp rest hk) hp
     ·exact ka R hp rest hk
    ·cases g.2
     ·exact ka R hp rest hk
     ·exact FC R (λ_ _ _=>ka R hp rest hk) hp
def iy (R:LimR ρ ρω){H:Hints}: ∀(c:Code) {β:Type} {s:S} {μ:Mu} {k:Nat->St->Option β} {kω:St->Option β} (hk: ∀st,Lim (λn=>k n st) (kω st)),Lim (λn=>dP P (ρ n) H c s μ (k n)) (dP P ρω H c s μ kω)
 | .skip,β,s,μ,k,kω,hk=>by unfold dP;exact hk _| .region id ops draw,β,s,μ,k,kω,hk=>by
  unfold dP;cases draw
  ·exact ka R (λ_ _ _=>hk _) _ λ_ _=>hk _
  ·exact Lim.guard (ka R (λ_ _ _=>Lim.guard (t6 λ_=>hk _)) _ λ_ _=>hk _)
 | .seq x y,β,s,μ,k,kω,hk=>by
  unfold dP;refine iy R x λst=> ?_;cases st
  ·dsimp only;split
   ·exact iy R y hk
   ·exact sS λ_=>t6 λ_=>w7 λ_=>Lim.opt (R.seg _ _ _ _ _) hk
  all_goals simp_all
 | .cond c x y,β,s,μ,k,kω,hk=>by unfold dP;exact Lim.opt' λ_=>Lim.cond (iy R x hk) (iy R y hk)| .block id x,β,s,μ,k,kω,hk=>by unfold dP;refine iy R x λst=> ?_;grind| .loop x,β,s,μ,k,kω,hk=>by unfold dP;exact sS λ_=>t6 λ_=>w7 λ_=>Lim.opt (R.loop _ _ _ _ _) hk| .exit id,β,s,μ,k,kω,hk=>by unfold dP;exact hk _| .ret,β,s,μ,k,kω,hk=>by unfold dP;exact hk _| .rangeFunc ..,β,s,μ,k,kω,hk=>by unfold dP;exact .none| .scope ..,β,s,μ,k,kω,hk=>by unfold dP;exact .none| .label ..,β,s,μ,k,kω,hk=>by unfold dP;exact .none| .goto ..,β,s,μ,k,kω,hk=>by unfold dP;exact .none| .refuse ..,β,s,μ,k,kω,hk=>by unfold dP;exact .none
def D1 (R:LimR ρ ρω){H:Hints}{lv:List (Nat×Nat)}{c:Code}{s:S}{μ:Mu}:Lim (λn=>qT P (ρ n) H lv c s μ) (qT P ρω H lv c s μ):=by
 unfold qT;refine iy R c λst=> ?_;cases st
 ·exact sS λ_=>t6 λ_=>w7 λ_=>R.loop _ _ _ _ _
 ·exact .const _
 ·exact .const _
 ·exact .const _
def JC (R:LimR ρ ρω){H:Hints}{lv:List (Nat×Nat)}{c:Code}{s:S}{μ:Mu}:Lim (λn=>zT P (ρ n) H lv c s μ) (zT P ρω H lv c s μ):=by unfold zT;refine iy R c λst=> ?_;exact .const _
def w6 (R:LimR ρ ρω){t:Nat}{pv:Option CV}{s:S}{μ:Mu}{k:Nat->S->Mu->Option β}{kω:S->Mu->Option β}(hk: ∀s μ,Lim (λn=>k n s μ) (kω s μ)):Lim (λn=>oL (ρ n) t pv s μ (k n)) (oL ρω t pv s μ kω):=by
 unfold oL;split
 ·exact Lim.opt' λ_=>Lim.opt' λ_=>Lim.opt (R.dcall _ _ _ _) λ_=>Lim.opt' λ_=>hk _ _
 ·exact .none
def Qv (R:LimR ρ ρω){H:Hints}{fn:Func}{c:Code}{t:Nat}{args:List LV}{μ:Mu}:Lim (λn=>uP P (ρ n) H fn c t args μ) (uP P ρω H fn c t args μ):=by
 unfold uP;split
 ·split
  ·exact .none
  ·split
   ·exact .none
   ·refine Lim.guard (iy R _ λst=> ?_);cases st with
    |norm s μ=>
     refine ka R (λ_ _ _=> .none) _ λ_ _=>Lim.guard (iy R _ λst=> ?_);cases st with|norm s μ=>exact w6 R λ_ _=> .const _|ret s μ=>exact w6 R λ_ _=> .const _|panic v s μ=>exact w6 R λ_ _=> .const _|exit i s μ=>exact .none
    |_=>exact .none
 ·exact .none
def Qw (R:LimR ρ ρω){H:Hints}{fn:Func}{c:Code}{pv:Option CV}{args:List LV}{μ:Mu}:Lim (λn=>uU P (ρ n) H fn c pv args μ) (uU P ρω H fn c pv args μ):=by
 unfold uU;split
 ·split
  ·exact .none
  ·split
   ·exact .none
   ·refine Lim.guard (ka R (λ_ _ _=> .none) _ λ_ _=>iy R _ λst=> .const _)
 ·exact .none
def xI (R:LimR ρ ρω){E:Env}{f:FuncId}{pv:Option CV}{args:List LV}{μ:Mu}:Lim (λn=>i6 E (ρ n) f pv args μ) (i6 E ρω f pv args μ):=by
 unfold i6;split
 ·split
  ·exact Qw R
  ·exact .none
 ·exact .none
def zk (R:LimR ρ ρω){E:Env}{f:FuncId}{args:List LV}{μ:Mu}:Lim (λn=>bN E (ρ n) f args μ) (bN E ρω f args μ):=by
 unfold bN;split
 ·exact .const _
 ·split
  ·split
   ·split
    ·unfold HP;refine Lim.guard (iy R _ λst=> ?_);exact .const _
    ·exact Qv R
   ·exact .none
  ·exact .none
end
open Classical in
noncomputable def tZ {β:Type}(x:Nat->Option β):Option β:=if h: ∃r n,∀m,n<=m->x m=some r then some h.choose else none
def qI {β:Type}(x:Nat->Option β):Lim x (tZ x):=by
 intro r h;unfold tZ at h;split at h
 ·rename_i hh;simp only[bJ]at h;subst h;exact hh.choose_spec
 ·cases h
def wZ {β:Type}{x:Nat->Option β}{r:β}(h: ∃n,∀m,n<=m->x m=some r):tZ x=some r:=by have hh: ∃r n,∀m,n<=m->x m=some r:=⟨r,h⟩;unfold tZ;rw[dif_pos hh];obtain⟨n,hn⟩:=h;obtain⟨k,hk⟩:=hh.choose_spec;rw[<-hk (max n k) bu,hn (max n k) bu]
noncomputable def ev (E:Env):Rho where
 call:=λf args μ=>tZ λn=>(evn E n).call f args μ
 loop:=λH lv c s μ=>tZ λn=>(evn E n).loop H lv c s μ
 seg:=λH lv c s μ=>tZ λn=>(evn E n).seg H lv c s μ
 dcall:=λf pv args μ=>tZ λn=>(evn E n).dcall f pv args μ
def DG (E:Env):LimR (evn E) (ev E):=⟨λf args μ=>qI _,λH lv c s μ=>qI _,λH lv c s μ=>qI _,λf pv args μ=>qI _⟩
def b8 {E:Env}{f:FuncId}{args:List LV}{μ:Mu}{out:Out}(h:bN E (ev E) f args μ=some out):(ev E).call f args μ=some out:=by obtain⟨n,hn⟩:=zk (DG E) (E:=E) (f:=f) (args:=args) (μ:=μ) out h;refine wZ ⟨n+1,λm hm=> ?_⟩;obtain⟨q,rfl⟩: ∃q,m=q+1:=⟨m-1,bu⟩;exact hn q bu
def OK {E:Env}{H:Hints}{lv:List (Nat×Nat)}{c:Code}{s:S}{μ:Mu}{st:St}(h:qT E.P (ev E) H lv c s μ=some st):(ev E).loop H lv c s μ=some st:=by obtain⟨n,hn⟩:=D1 (DG E) (P:=E.P) (H:=H) (lv:=lv) (c:=c) (s:=s) (μ:=μ) st h;refine wZ ⟨n+1,λm hm=> ?_⟩;obtain⟨q,rfl⟩: ∃q,m=q+1:=⟨m-1,bu⟩;exact hn q bu
def Tp {E:Env}{H:Hints}{lv:List (Nat×Nat)}{c:Code}{s:S}{μ:Mu}{st:St}(h:zT E.P (ev E) H lv c s μ=some st):(ev E).seg H lv c s μ=some st:=by obtain⟨n,hn⟩:=JC (DG E) (P:=E.P) (H:=H) (lv:=lv) (c:=c) (s:=s) (μ:=μ) st h;refine wZ ⟨n+1,λm hm=> ?_⟩;obtain⟨q,rfl⟩: ∃q,m=q+1:=⟨m-1,bu⟩;exact hn q bu
def sN {E:Env}{f:FuncId}{pv:Option CV}{args:List LV}{μ μ':Mu}(h:i6 E (ev E) f pv args μ=some μ'):(ev E).dcall f pv args μ=some μ':=by obtain⟨n,hn⟩:=xI (DG E) (E:=E) (f:=f) (pv:=pv) (args:=args) (μ:=μ) μ' h;refine wZ ⟨n+1,λm hm=> ?_⟩;obtain⟨q,rfl⟩: ∃q,m=q+1:=⟨m-1,bu⟩;exact hn q bu
def Jk {E:Env}(hm:E.P.follows .mixedOrders=true){W0:World}(hp:Am E W0){f:FuncId}{args:List LV}{μ:Mu}{out:Out}(h:(ev E).call f args μ=some out):fk E.P W0 f args μ out:=by obtain⟨n,hn⟩:=qI _ out h;exact(GI hm hp n).1 f args μ out (hn n (cw n))
open Go.ChangeShapes Go.WideShapes
def Gh.top (w:World):Gh where
 O:=λb=>match w.heap[b]? with|some (.cells cs _ _)=>cs.size|_=>0
 β:=λ_ _=>0
 n:=λ_=>0
 sz:=λ_ _=>0
def Fc (W w':World):Prop:=W.keptBut w' (λ_=>False)/\(∀a:Addr,a.block<W.heap.size->w'.frozen? a=W.frozen? a)/\W.heap.size<=w'.heap.size/\ ∀b,b<W.heap.size->w'.heap[b]? =W.heap[b]?
def Y4 {W w':World}(ho:w'.os=W.os)(hu:w'.output=W.output)(hs:W.heap.size<=w'.heap.size)(hk: ∀b,b<W.heap.size->w'.heap[b]? =W.heap[b]?):Fc W w':=by
 refine⟨⟨ho,hu,λi hi=> ?_⟩,λa ha=> ?_,hs,hk⟩
 ·grind
 ·simp only[World.frozen?];rw[hk _ ha]
def UQ {H:Type}{enc:TypeId×Value->H}{P:Program}{f:Func}{s:ChangeSpec}{apart fresh handsOn again:Bool}{W W':World}{args:Array Value}{v:Value}{ds gs:List (DataW H)}{before pa pv:List MemPlace}
 (hW:DataW.Whole enc P f.params.toList s.vars apart W args.toList ds gs before)
 (hres: ∀(b:Nat) (sp:Nat->Bool) (hd:Bool),DataW.TrodAll enc P W' b sp hd f.resultTypes.toList (v.resultList f.resultTypes.size) (s.fn H (ds++gs)).results [])
 (hargs: ∀sp:Nat->Bool,(∀p∈before,sp p.block=true)->DataW.TrodAll enc P W' 0 sp true f.params.toList args.toList (s.fn H (ds++gs)).args pa)
 (hvars: ∀sp:Nat->Bool,(∀p∈before,sp p.block=true)->DataW.TrodVars enc P W' sp s.vars (s.fn H (ds++gs)).vars pv)
 (hps:before=pa++pv) (hk:Fc W W')
 (hok: ∀(j:Nat) (t:TypeId) (r:Value),f.resultTypes[j]? =some t->(v.resultList f.resultTypes.size)[j]? =some r->Value.okWide P W' .any 0 t r):
 s.post enc P f apart fresh handsOn again W args v W':=by
 have hlt:=λp hp=>hW.lt p hp;have hold: ∀p∈before,(λb=>decide (b<W.heap.size)) p.block=true:=λp hp=>by simpa using hlt p hp
 refine⟨ds,gs,before,[],pa,pv,hW,hres _ _ _,hargs _ hold,hvars _ hold,World.keptBut_mono (λ_ f=>f.elim) hk.1,λ_=> ?_⟩;obtain⟨_,_,_,_,_,hz,hn⟩:=hW;refine⟨hok,_,_,([]++pa)++pv,⟨[]++pa,pv,trodAll_append (hargs _ (λ_ _=>rfl)) (hres _ _ _),hvars _ (λ_ _=>rfl),rfl,?_,?_⟩,?_⟩
 ·intro b off hp;have hm:MemPlace.cell b off∈before:=by rw[hps];simpa using hp
  rw[hk.2.1 _ (hlt _ hm)];exact hz b off hm
 all_goals simp_all
section
variable {P:Program}{w:World}
def Rel.top {args:List CV}{cargs:Array Value}(hv: ∀j x,args[j]? =some x->VR (Gh.top w) w x (cargs.getD j undef)):Rel (Gh.top w) 0 (ck (args.map .cv)) [] cargs w/\ ∀b,¬bH (Gh.top w) w (ck (args.map .cv)) [] cargs b:=by
 have hlive: ∀lev i,¬b6 (bP ([]++[(ck (args.map .cv)).lam]) lev i):=by intro lev i h;obtain⟨h1,_⟩:=pO (μ:=[]) h;simp at h1
 have hown: ∀q b,¬bF (Gh.top w) w (ck (args.map .cv)).fr cargs ([]++[(ck (args.map .cv)).lam]) q b:=by
  intro q b h;cases q with
  |fr t=>
   simp only[bF,eJ,fP]at h;cases hx:args[t]? with|none=>rw[hx]at h;simp[bZ]at h|some x=>rw[hx]at h;simp[bZ]at h
  |ob lev i k=>exact hlive lev i (i8 h)
 refine⟨⟨rfl,λt=> ?_,λi=> ?_,λlev i hl=>by omega,λlev i lev' i' h _ _=>absurd h (hlive lev i),λq q' b h _=>absurd h (hown q b),λq b lev i h _ _=>hown q b h,λlev hl=>by omega,?_,λlev hl=>rfl⟩,?_⟩
 ·rw[eJ,fP];cases hx:args[t]? with|none=>simp[LVR,VR]|some x=>simp only[d8,gB,LVR];exact hv t x hx
 ·have:bQ (ck (args.map .cv)).lam i= .dead:=by simp[ck,bQ]
  rw[this];trivial
 ·rfl
 ·rintro b (⟨q,h⟩|⟨lev,i,h,_⟩)
  all_goals simp_all
def fk.bool {f:FuncId}{args:List CV}{r:Bool}{μ':Mu}(hm:fk P w f (args.map .cv) [] (.ret (LV.bool r) μ')){cargs:Array Value}(hs:cargs.size=args.length)(hv: ∀j x,args[j]? =some x->VR (Gh.top w) w x (cargs.getD j undef)):
 Calls P f cargs w λe w'=>e= .returned (.bool r)/\Fc w w':=by
 obtain⟨R,hT⟩:=Rel.top hv;refine(hm.2 (Gh.top w) w cargs (by simpa using hs) R ⟨cw _,λb _=>⟨rfl,hT b⟩⟩).mono λe w' h=> ?_;cases e with
 |returned cv=>
  simp only[jE]at h;obtain⟨O',R',E⟩:=h;have h0:=R'.fr 0;simp only[eJ,eu,gB,LVR,VR]at h0;have:cv= .bool r:=by simpa using h0
  subst this;exact⟨rfl,Y4 E.os E.output E.size λb hb=>(E.keep b hb (hT b)).1⟩
 |panicked ch=>simp[jE]at h|outgrown=>simp[jE]at h
end
inductive Kont where
 |seq (b:Code)|block (id:Nat)
def nf (P:Program)(ρ:Rho)(H:Hints){α:Type}:List Kont->St->(St->Option α)->Option α
 |[],st,k=>k st| .seq b::κ,st,k=>match st with
  | .norm s μ=>match P6 (dK b) H.cuts with
   |none=>dP P ρ H b s μ λst=>nf P ρ H κ st k|some lv=>pS (AF (dK b) H.objs) s λs=>fU lv.1 s λs=>nj μ.length lv.1 s λs=>opt (ρ.seg H lv.2 b s μ) λst=>nf P ρ H κ st k
  | .exit i s μ=>nf P ρ H κ (.exit i s μ) k| .ret s μ=>nf P ρ H κ (.ret s μ) k| .panic v s μ=>nf P ρ H κ (.panic v s μ) k
 | .block id::κ,st,k=>match st with
  | .exit i s μ=>match Nat.beq i id with|true=>nf P ρ H κ (.norm s μ) k|false=>nf P ρ H κ (.exit i s μ) k
  | .norm s μ=>nf P ρ H κ (.norm s μ) k| .ret s μ=>nf P ρ H κ (.ret s μ) k| .panic v s μ=>nf P ρ H κ (.panic v s μ) k
def YA (P:Program)(rs:List ResultVar)(st:St):Option Out:=
 match st with
 | .norm s μ=>kx P rs s μ| .ret s μ=>kx P rs s μ| .panic v _ μ=>bB (below μ.length v) (some (.panic v μ))| .exit _ _ _=>none
def Xn (P:Program)(ρ:Rho)(H:Hints)(lv:List (Nat×Nat))(c:Code)(st:St):Option St:=
 match st with
 | .norm s μ=>pS (AF (dK c) H.objs) s λs=>fU (H.lives (dK c)).1 s λs=>nj μ.length (H.lives (dK c)).1 s λs=>ρ.loop H lv c s μ| .exit i s μ=>fU lv s λs=>some (.exit i s μ)| .ret s μ=>fU H.res s λs=>some (.ret s μ)| .panic v s μ=>fU H.pan s λs=>some (.panic v s μ)
def abl (H:Hints)(lv:List (Nat×Nat))(st:St):Option St:=
 match st with
 | .norm s μ=>fU lv s λs=>some (.norm s μ)| .exit i s μ=>fU lv s λs=>some (.exit i s μ)| .ret s μ=>fU H.res s λs=>some (.ret s μ)| .panic v s μ=>fU H.pan s λs=>some (.panic v s μ)
def CZ:Code->List Nat->Code
 |c,[]=>c| .seq a _,0::p=>CZ a p| .seq _ b,_::p=>CZ b p| .cond _ a _,0::p=>CZ a p| .cond _ _ b,_::p=>CZ b p| .block _ c,_::p=>CZ c p| .loop c,_::p=>CZ c p|c,_=>c
def Z7 (P:Program)(f:FuncId):Code:=match P.funcs[f]? with|some fn=>(match fn.body with|some c=>c|none=> .skip)|none=> .skip
def aah (P:Program)(f:FuncId)(p:List Nat):Code:=CZ (Z7 P f) p
def H1 (P:Program)(f:FuncId):List ResultVar:=match P.funcs[f]? with|some fn=>fn.results.toList|none=>[]
def kE {α:Type}:List (Nat×List Nat)->Lam->(Lam->Option α)->Option α
 |[],l,k=>k l|q::r,l,k=>match bQ l q.1 with
  | .cells cs=>jK q.2 cs λcs=>kE r (l.set q.1 (.cells cs)) k|_=>none
def dg (l:List UInt8):List CV:=l.map λb=> .v (.int .u8 (b.toNat:Int))
open Go.RowKit
section
variable {P:Program}{W0:World}{G:Gh}{w w':World}{L:Nat}{μ:Mu}{s:S}{tm:Array Value}
def Fk {p:Addr}{v:Value}(h:w.cell? p=some v):p.block<w.heap.size:=by
 by_cases hp:p.block<w.heap.size
 ·exact hp
 ·exfalso;unfold World.cell? at h;simp_all
def Fx {b:Nat}{o:Obj}(h:w.heap[b]? =some o):b<w.heap.size:=(qZ.1 h).1
def IC (hb:Below w.heap.size w w'):Le G w G w':=by
 refine⟨λb es clk h h1=>⟨h,by rw[hb.block b (Fx h1)];exact h1⟩,λlev i h=>⟨h,rfl,rfl⟩,λb off v h h1=>⟨h,?_⟩,λb cur e fz h=>⟨cur,fz,?_,rfl⟩⟩
 ·rw[hb.cell (p:=⟨b,off,none⟩) (Fk h1)];exact h1
 ·rw[hb.block b (Fx h)];exact h
def Rel.later (R:Rel G L s μ tm w)(hb:Below w.heap.size w w'):Rel G L s μ tm w'/\(∀l b,bF G w' s.fr tm (μ++[s.lam]) l b->bF G w s.fr tm (μ++[s.lam]) l b):=
 R.frame (IC hb) (λb h=>⟨hb.block b (R.touch_lt h),rfl⟩) (λ_ _ _=>⟨rfl,rfl⟩) rfl
def mU {f:FuncId}{args:List LV}{v:LV}(hf: ∃fn c,P.funcs[f]? =some fn/\fn.body=some c/\(fn.name == "runtime.NumGoroutine")=false)
 (hc : ∀ (G : Gh) (w : World) (cargs : Array Value), cargs.size = args.length -> (∀ j x, args[j]? = some x -> LVR G w μ.length 0 x (cargs.getD j undef)) -> W0.heap.size <= w.heap.size -> (∀ b, b < W0.heap.size -> w.heap[b]? = W0.heap[b]?) ->
  Calls P f cargs w λe w'=> ∃cv,e= .returned cv/\Below w.heap.size w w'/\LVR G w' μ.length 0 v cv/\ ∀b,¬bZ v cv b):fk P W0 f args μ (.ret v μ):=by
 refine⟨hf,λG w cargs hs R hkn=> ?_⟩;refine(hc G w cargs hs (λj x hx=> ?_) hkn.1 (λb hb=>(hkn.2 b hb).1)).mono λe w' h=> ?_
 ·have:=R.fr j;rw[eJ,hx]at this;exact this
 ·obtain⟨cv,rfl,hb,hv,hno⟩:=h;obtain⟨R1,hO⟩:=R.later hb;have hob: ∀lev i,bP (μ++[(ck [v]).lam]) lev i=bP (μ++[(ck args).lam]) lev i:=λ_ _=>rfl;have hown: ∀q b,bF (G.withO G.O) w' (ck [v]).fr #[cv] (μ++[(ck [v]).lam]) q b->bF G w' (ck args).fr cargs (μ++[(ck args).lam]) q b:=by
   intro q b h;cases q with
   |fr t=>
    exfalso;simp only[bF,eJ]at h;cases t with|zero=>exact hno b h|succ t=>simp[bZ]at h
   |ob lev i k=>exact h
  refine⟨G.O,⟨R1.lev,λt=> ?_,R1.lam,R1.mu,R1.inj,λq q' b h h'=>R1.own q q' b (hown q b h) (hown q' b h'),λq b lev i h h'=>R1.apart q b lev i (hown q b h) h',R1.nlt,R1.nL,R1.ngt⟩,?_⟩
  ·rw[eJ];cases t with|zero=>exact hv|succ t=>simp[LVR,VR]
  ·refine⟨IC hb,hb.os,hb.tape,hb.output,hb.size,λb hl _=>⟨hb.block b hl,rfl⟩,λb h=> .inl ?_,λ_ _=>⟨λ_=>⟨rfl,rfl⟩,rfl⟩⟩;rcases h with⟨q,h⟩|⟨lev,i,h,e⟩
   ·exact .inl ⟨q,hO q b (hown q b h)⟩
   ·exact .inr ⟨lev,i,h,e⟩
def Ap {vals:List Value}{cargs:Array Value}(hs:cargs.size=(vals.map λv=>LV.cv (.v v)).length)(hv: ∀j x,(vals.map λv=>LV.cv (.v v))[j]? =some x->LVR G w L 0 x (cargs.getD j undef)):cargs=vals.toArray:=by
 simp only[pj]at hs;apply vM
 ·simpa using hs
 ·intro j h1 h2;have h3:j<vals.length:=by simpa using h2
  have:=hv j (.cv (.v vals[j])) (by simp[h3]);simp only[LVR,VR,d7,vN h1,gB]at this;simp_all
def QC {f:FuncId}{vals:List Value}{r:Value}(hf: ∃fn c,P.funcs[f]? =some fn/\fn.body=some c/\(fn.name == "runtime.NumGoroutine")=false)
 (hc: ∀w:World,W0.heap.size<=w.heap.size->(∀b,b<W0.heap.size->w.heap[b]? =W0.heap[b]?)->Calls P f vals.toArray w λe w'=>e= .returned r/\Below w.heap.size w w'):
 fk P W0 f (vals.map λv=>LV.cv (.v v)) μ (.ret (.cv (.v r)) μ):=by
 refine mU hf λG w cargs hs hv h1 h2=> ?_;rw[Ap hs hv];exact(hc w h1 h2).mono λe w' ⟨h3,h4⟩=>⟨r,h3,h4,by simp[LVR,VR],λb h=>by simp[bZ]at h⟩
end
abbrev g8:=List LV->Mu->Option Out
def AI (g:List UInt8->Option LV):g8:=λargs μ=>opt (bC args) λq=>opt (bS q.2) λ_=>opt (cf q.1) λs=>opt (g s) λv=>some (.ret v μ)
def nB (g:List UInt8->List UInt8->Option LV):g8:=λargs μ=>opt (bC args) λq=>opt (bC q.2) λr=>opt (bS r.2) λ_=>opt (cf q.1) λs=>opt (cf r.1) λt=>opt (g s t) λv=>some (.ret v μ)
def HZ (g:List UInt8->List UInt8->List UInt8->Option LV):g8:=λargs μ=>opt (bC args) λq=>opt (bC q.2) λr=>opt (bC r.2) λz=>opt (bS z.2) λ_=>opt (cf q.1) λs=>opt (cf r.1) λt=>opt (cf z.1) λu=>
 opt (g s t u) λv=>some (.ret v μ)
def iX (s:List UInt8):Bool:=decide (s.length<=1000000)
def xf:g8:=AI λs=>bB (iX s) (some (LV.str (Lib.toUpperD s)))
def Dp (err:TypeId)(s:List UInt8):LV:=match Lib.atoiAll s with
 | .ok v=> .ltup [bv v,.cv (.v .nilIface)]| .range=> .ltup [bv (Lib.atoiSat s),.cv (.iface err .undef)]|_=> .ltup [bv 0,.cv (.iface err .undef)]
def HY (err:TypeId):g8:=AI λs=>bB (iX s) (some (Dp err s))
def El:g8:=λargs μ=>opt (bC args) λq=>opt (bS q.2) λ_=>opt (bI .i64 q.1) λn=>bB (decide (-9223372036854775808<=n)&&decide (n<=9223372036854775807)) (some (.ret (LV.str (Lib.itoa n)) μ))
def rL:g8:=nB λs p=>some (LV.bool (Lib.hasPrefix s p))
def qi:g8:=nB λs p=>some (LV.str (Lib.trimPrefix s p))
def FK (s:List UInt8):Option UInt8:=match s with|[c]=>some c|_=>none
def ub:g8:=nB λs t=>opt (FK t) λc=>bB (decide (c.toNat<128)) (some (LV.str (Lib.trimLeftB s c)))
def rM:g8:=nB λs t=>opt (FK t) λc=>bB (decide (c.toNat<128)&&iX s) (some (LV.str (Lib.trimRightB s c)))
def Ek:g8:=nB λs t=>bB (iX s) (some (bv (Lib.index s t)))
def qh:g8:=HZ λs old new=>bB (iX s&&iX new&&decide (1<=old.length)) (some (LV.str (Lib.replaceAll s old new)))
def ly (preds:FuncId->Option (UInt8->Bool)):g8:=λargs μ=>opt (bC args) λq=>opt (bC q.2) λr=>opt (bS r.2) λ_=>opt (cf q.1) λs=>match r.1 with
 | .cv (.clo g [])=>opt (preds g) λp=>some (.ret (LV.bool (s.any p)) μ)|_=>none
def mX (bt:TypeId):g8:=λargs μ=>opt (bC args) λq=>opt (bS q.2) λ_=>match q.1 with
 | .cv (.tref lev i t n) => bB (Nat.beq t bt && Nat.beq n 2) (match b7 μ lev i with
  | .cells [a,b]=>match a with
   | .cv (.v (.pointer none))=>some (.ret (.ltup []) (cq μ lev i (.cells [.cv (.ref lev i 0),b])))| .cv (.ref l j 0)=>bB (Nat.beq l lev&&Nat.beq j i) (some (.ret (.ltup []) μ))|_=>none
  |_=>none)
 |_=>none
def vg (bt:TypeId):g8:=λargs μ=>opt (bC args) λq=>opt (bS q.2) λ_=>match q.1 with
 | .cv (.tref lev i t n) => bB (Nat.beq t bt && Nat.beq n 2) (match b7 μ lev i with
  | .cells [a,b]=>opt (gv b) λxs=>opt (de xs) λs=>some (.ret (LV.str s) (cq μ lev i .dead))
  |_=>none)
 |_=>none
def togStep (f:List Int)(nx a:Int):Option Int:=if a= -1 then some nx else if a=nx-1 then some ((f[a.toNat]?).getD 0)else none
def togSt (f:List Int)(l:List Int)(nx:Int):Option Int:=l.foldlM (togStep f) nx
def intsOf:List CV->Option (List Int)
 |[]=>some []| .v (.int .i64 n)::r=>opt (intsOf r) λl=>some (n::l)|_::_=>none
def ED (f zs:List Int)(nx:Int):Bool:=decide (f.length<=1000000)&&decide (zs.length<=1000000)&&decide (0<=nx)&&decide (nx<=f.length)&&f.all λv=>decide (0<=v)&&decide (v<=f.length)
def Lc (r:Option Int):LV:=match r with|some v=> .ltup [bv v,LV.bool true]|none=> .ltup [bv 0,LV.bool false]
def qM:g8:=λargs μ=>opt (bC args) λq=>opt (bC q.2) λr=>opt (bC r.2) λz=>opt (bS z.2) λ_=>opt (cR q.1) λf=>opt (cR r.1) λl=>opt (bI .i64 z.1) λnx=>
 opt (intsOf f) λf=>opt (intsOf l) λl=>bB (ED f l nx) (some (.ret (Lc (togSt f l.reverse nx)) μ))
set_option maxRecDepth 1000000
open Go.Proofs
def H3:Hints:={ops:=[((5,5),{take:=[29]}),((6,5),{take:=[34]}),((7,5),{take:=[5]}),((7,6),{take:=[40,41]}),((11,1),{take:=[48]}),((11,2),{take:=[49]}),((12,5),{take:=[56]}),((13,7),{take:=[9]}),((13,8),{take:=[3]}),((13,9),{take:=[65,66]})],cuts:=[(3,[(0,0)],[(2,0)]),(5,[(0,0)],[(2,0)]),(9,[(3,2),(6,0)],[(2,0)]),(11,[(3,2)],[(2,0)])],res:=[(2,0)]}
def H4:Hints:={ops:=[((10,1),{take:=[39]}),((10,2),{take:=[40]}),((10,7),{take:=[42]}),((11,0),{take:=[0]}),((11,1),{take:=[46]}),((11,6),{take:=[48]}),((12,9),{take:=[4]}),((12,10),{take:=[7]}),((12,11),{take:=[60,61]})],live:=[(6,[(0,2),(3,0)],[(0,2)])],cuts:=[(3,[(0,2)],[(2,0)]),(5,[(0,2)],[(2,0)])],res:=[(2,0)]}
def H5:Hints:={ops:=[((3,1),{take:=[17]}),((5,1),{take:=[21]}),((5,2),{take:=[22]}),((6,1),{take:=[27]}),((6,2),{take:=[28]}),((7,1),{take:=[32]}),((10,1),{take:=[52]}),((10,3),{take:=[54]}),((15,5),{take:=[93]}),((16,6),{take:=[98]}),((19,12),{take:=[10]}),((19,13),{take:=[0]}),((19,14),{take:=[127,128]})],cuts:=[(3,[(0,2)],[(2,0)]),(5,[(0,2)],[(2,0)]),(10,[(0,2),(3,0),(4,0),(5,0),(6,0)],[(2,0)]),(13,[(0,2),(3,0),(4,0),(8,0)],[(2,0)]),(15,[(0,2),(3,0),(4,0),(8,0)],[(2,0)]),(19,[(0,2),(3,0),(4,0),(8,0),(10,2),(11,0)],[(2,0)])],res:=[(2,0)]}
def H6:Hints:={ops:=[((3,1),{take:=[10]}),((5,1),{take:=[14]}),((5,2),{take:=[15]}),((5,6),{take:=[17]}),((6,1),{take:=[19]}),((8,4),{take:=[3]}),((8,5),{take:=[27]}),((9,5),{take:=[34]}),((9,6),{take:=[33,35]}),((9,11),{take:=[40]}),((11,1),{take:=[45]}),((11,2),{take:=[46]}),((11,6),{take:=[48]}),((12,3),{take:=[6]}),((12,5),{take:=[53,54]}),((12,8),{take:=[3]}),((12,9),{take:=[58]}),((12,11),{take:=[0]}),((12,12),{take:=[61]})],cuts:=[(3,[(0,2)],[(2,0)]),(5,[(0,2)],[(2,0)]),(9,[(0,2),(3,2),(4,0)],[(2,0)]),(11,[(0,2),(3,2)],[(2,0)])],res:=[(2,0)]}
def H7:Hints:={ops:=[((6,10),{take:=[48]}),((9,0),{take:=[9]}),((9,1),{take:=[61]}),((9,2),{take:=[62]}),((18,5),{take:=[121]}),((19,0),{take:=[16]}),((19,1),{take:=[124]}),((19,2),{take:=[125]}),((24,9),{take:=[158]}),((25,0),{take:=[22]}),((25,1),{take:=[161]}),((25,2),{take:=[162]})],cuts:=[(3,[(0,0),(1,0),(2,0)],[(6,0)]),(5,[(0,0),(1,0),(2,0)],[(6,0)]),(9,[(0,0),(1,0),(2,0),(7,0),(8,0),(9,2),(10,0)],[(6,0)]),(16,[(0,0),(2,0),(7,0),(10,0),(11,0),(12,0),(14,0),(15,0)],[(6,0)]),(18,[(0,0),(2,0),(7,0),(14,0),(15,0)],[(6,0)]),(22,[(0,0),(2,0),(7,0)],[(6,0)]),(28,[(7,0),(20,0),(23,0),(24,0),(25,0)],[(6,0)])],res:=[(6,0)]}
def H8:Hints:={ops:=[((3,1),{take:=[11]}),((5,1),{take:=[15]}),((5,2),{take:=[16]}),((6,1),{take:=[21]}),((6,2),{take:=[22]}),((7,1),{take:=[27]}),((12,4),{take:=[0]}),((12,5),{take:=[52]})],cuts:=[(3,[(0,2)],[(2,0)]),(5,[(0,2)],[(2,0)]),(10,[(0,2),(5,0),(6,0),(8,0)],[(2,0)]),(12,[(0,2),(5,0),(6,0)],[(2,0)])],res:=[(2,0)]}
def H9:Hints:={ops:=[((3,1),{take:=[14]}),((5,1),{take:=[18]}),((5,3),{take:=[19]}),((5,7),{take:=[22]}),((6,1),{take:=[24]}),((8,4),{take:=[5]}),((8,5),{take:=[32]}),((9,1),{take:=[35]}),((9,3),{take:=[37]}),((9,6),{take:=[38]}),((11,3),{take:=[5]}),((11,4),{take:=[56]}),((13,3),{take:=[5]}),((13,8),{take:=[63,67]}),((17,2),{take:=[9]}),((17,3),{take:=[77]}),((17,4),{take:=[78]}),((17,8),{take:=[80]}),((18,3),{take:=[10]}),((18,4),{take:=[0]}),((18,5),{take:=[85,86]})],cuts:=[(3,[(0,2),(1,0)],[(4,0)]),(5,[(0,2),(1,0)],[(4,0)]),(9,[(0,2),(1,0),(5,2),(6,0)],[(4,0)]),(15,[(0,2),(8,0),(9,2)],[(4,0)]),(17,[(0,2),(8,0),(9,2)],[(4,0)])],res:=[(4,0)]}
def H10:Hints:={ops:=[((9,4),{take:=[36]}),((11,4),{take:=[42]}),((14,2),{take:=[49]}),((14,3),{take:=[50]}),((14,7),{take:=[52]}),((15,2),{take:=[56]}),((15,3),{take:=[57]}),((15,7),{take:=[59]}),((25,2),{take:=[81]}),((25,6),{take:=[83]}),((26,4),{take:=[10]}),((26,5),{take:=[16]}),((26,6),{take:=[89,90]}),((35,4),{take:=[12]}),((35,5),{take:=[108]}),((36,2),{take:=[2]}),((36,3),{take:=[113]}),((36,4),{take:=[114]}),((38,3),{take:=[12]}),((38,4),{take:=[121]}),((39,3),{take:=[12]}),((39,4),{take:=[16]}),((39,5),{take:=[127,128]})],live:=[(7,[(0,0),(1,0),(2,2),(7,0),(8,0)],[(0,0),(1,0),(2,2),(7,0)])],cuts:=[(3,[(0,0),(1,0),(2,2)],[(6,0)]),(5,[(0,0),(1,0),(2,2)],[(6,0)]),(11,[(0,0),(1,0),(2,2),(7,0),(8,0)],[(0,0),(1,0),(2,2),(7,0),(8,0)]),(23,[(0,0),(1,0),(2,2),(7,0),(10,2),(11,0),(12,2),(13,0),(14,0)],[(6,0)]),(26,[(1,0),(2,2),(7,0),(10,2),(11,0),(12,2),(13,0),(14,0),(16,2)],[(6,0)]),(28,[(1,0),(2,2),(7,0),(12,2),(13,0)],[(6,0)]),(34,[(1,0),(2,2),(12,2),(13,0),(14,0)],[(6,0)]),(36,[(1,0),(2,2),(12,2),(13,0)],[(6,0)]),(39,[(12,2),(13,0),(16,2)],[(6,0)])],res:=[(6,0)]}
def H11:Hints:={ops:=[((3,1),{take:=[20]}),((3,5),{take:=[24]}),((5,1),{take:=[34]}),((5,2),{take:=[35]}),((5,6),{take:=[37]}),((6,1),{take:=[40]}),((6,4),{take:=[43]}),((6,5),{take:=[41,44]}),((6,10),{take:=[46]}),((7,1),{take:=[49]}),((9,4),{take:=[7]}),((9,14),{take:=[9]}),((9,15),{take:=[67]}),((10,3),{take:=[7]}),((10,5),{take:=[78]}),((10,6),{take:=[77,79]}),((12,1),{take:=[83]}),((16,4),{take:=[9]}),((16,5),{take:=[98]}),((17,2),{take:=[2]}),((17,3),{take:=[106,108]}),((17,7),{take:=[110]}),((19,3),{take:=[9]}),((19,4),{take:=[118]}),((20,9),{take:=[13]}),((20,10),{take:=[133,134]}),((20,14),{take:=[9]}),((20,15),{take:=[139]}),((22,1),{take:=[144]}),((22,6),{take:=[145,149]}),((22,11),{take:=[151]}),((23,8),{take:=[15]}),((23,9),{take:=[0]}),((23,10),{take:=[162,163]})],cuts:=[(3,[(0,2),(1,0),(2,2)],[(6,0)]),(5,[(0,2),(1,0),(2,2)],[(6,0)]),(10,[(0,2),(1,0),(2,2),(7,2),(8,0),(9,2),(10,0),(11,0)],[(6,0)]),(12,[(0,2),(1,0),(2,2),(9,2),(10,0),(11,0)],[(6,0)]),(15,[(0,2),(1,0),(2,2),(9,2),(10,0),(11,0),(12,0)],[(6,0)]),(17,[(0,2),(1,0),(2,2),(9,2),(10,0),(11,0)],[(6,0)]),(20,[(0,2),(1,0),(9,2),(10,0),(11,0),(13,2),(14,0)],[(6,0)]),(22,[(0,2),(1,0),(14,0)],[(6,0)])],res:=[(6,0)]}
def H12:Hints:={ops:=[((1,4),{take:=[17]}),((2,1),{take:=[20]}),((3,4),{take:=[26]}),((4,0),{take:=[5]}),((4,1),{take:=[29]}),((5,4),{take:=[35]}),((6,0),{take:=[9]}),((6,1),{take:=[38]}),((6,5),{take:=[40]}),((7,0),{take:=[11]}),((7,1),{take:=[43]}),((8,3),{take:=[1]})]}
def H13:Hints:={ops:=[((1,6),{take:=[12]}),((4,1),{take:=[19]}),((4,6),{take:=[21]}),((7,1),{take:=[4]}),((9,0),{take:=[7]}),((9,1),{take:=[31]})],cuts:=[(4,[(4,2)],[(2,2),(3,0)]),(7,[(4,2),(7,2),(8,0)],[(2,2),(3,0)])],res:=[(2,2),(3,0)]}
def H14:Hints:={ops:=[((1,6),{take:=[12]}),((4,1),{take:=[19]}),((4,6),{take:=[21]}),((7,1),{take:=[4]}),((9,0),{take:=[7]}),((9,1),{take:=[31]})],cuts:=[(4,[(4,2)],[(2,2),(3,0)]),(7,[(4,2),(7,2),(8,0)],[(2,2),(3,0)])],res:=[(2,2),(3,0)]}
def H15:Hints:={ops:=[((6,48),{take:=[59,64]})],live:=[(4,[(0,2),(1,2),(5,0)],[])],cuts:=[(3,[(0,2),(1,2)],[(4,0)])],res:=[(4,0)]}
def H16:Hints:={ops:=[((1,0),{take:=[0]}),((1,1),{take:=[4]})]}
def H17:Hints:={ops:=[((5,0),{take:=[3]}),((5,21),{take:=[31]}),((5,24),{take:=[11]}),((5,25),{take:=[35]}),((6,0),{take:=[3]}),((6,1),{take:=[36]})],live:=[(3,[(0,2),(3,1),(4,0)],[(3,1)])],res:=[(2,2)]}
def H18:Hints:={ops:=[((12,0),{take:=[0]}),((13,1),{push:=true}),((16,1),{push:=true}),((16,5),{take:=[44]}),((17,4),{push:=true}),((19,0),{take:=[11]}),((19,5),{take:=[52]})],live:=[(4,[(0,2),(15,2),(16,0),(17,0)],[(0,2)])],cuts:=[(3,[(0,2)],[(2,2),(3,0),(4,0)]),(12,[(0,2)],[(2,2),(3,0),(4,0)]),(14,[(8,0),(9,0),(10,0)],[(2,2),(3,0),(4,0)]),(16,[(8,0),(9,0)],[(2,2),(3,0),(4,0)]),(17,[(8,0),(9,0),(10,0),(11,2)],[(2,2),(3,0),(4,0)]),(18,[(8,0),(11,2),(51,0)],[(8,0),(11,2)]),(19,[(8,0),(11,2)],[(2,2),(3,0),(4,0)])],res:=[(2,2),(3,0),(4,0)]}
def H19:Hints:={ops:=[((1,1),{take:=[0]}),((1,2),{take:=[3]}),((1,3),{take:=[5]})]}
def H20:Hints:={ops:=[((1,1),{take:=[11]}),((6,0),{take:=[0]}),((7,1),{push:=true}),((7,5),{take:=[27]}),((10,5),{take:=[35],push:=true}),((12,0),{take:=[8]}),((12,5),{take:=[38]})],cuts:=[(4,[(0,2)],[(2,2),(3,0),(4,0)]),(6,[(0,2)],[(2,2),(3,0),(4,0)]),(8,[(7,0),(8,2),(9,0)],[(2,2),(3,0),(4,0)]),(10,[(7,0),(8,2)],[(2,2),(3,0),(4,0)]),(11,[(7,0),(8,2),(37,0)],[(7,0),(8,2)]),(12,[(7,0),(8,2)],[(2,2),(3,0),(4,0)])],res:=[(2,2),(3,0),(4,0)]}
def H21:Hints:={live:=[(4,[(0,2),(3,0)],[])],cuts:=[(3,[(0,2)],[(2,0)])],res:=[(2,0)]}
def H22:Hints:={ops:=[((1,0),{take:=[0]}),((1,1),{take:=[4]})]}
def H23:Hints:={ops:=[((1,0),{take:=[0]}),((1,1),{take:=[6]})]}
def H24:Hints:={ops:=[((1,1),{take:=[11]}),((2,0),{take:=[0]}),((2,1),{take:=[13]}),((2,2),{take:=[14]}),((8,0),{take:=[7]}),((8,2),{take:=[27]}),((8,3),{take:=[29]}),((9,0),{take:=[7]}),((9,11),{take:=[34]}),((9,13),{take:=[30]}),((9,14),{take:=[43]}),((12,7),{take:=[7]}),((28,2),{take:=[7]}),((31,5),{take:=[7]}),((33,0),{take:=[7]}),((37,3),{take:=[7]})],live:=[(5,[(1,0),(5,0),(6,2),(7,1),(8,0)],[(1,0),(5,0),(7,1)]),(19,[(7,1),(9,0),(10,0)],[(9,0)])],cuts:=[(15,[(1,0),(5,0),(7,1),(45,0),(57,0)],[(1,0),(9,0)]),(23,[(7,1),(9,0),(10,0)],[(7,1),(9,0),(10,0)]),(37,[(1,0),(5,0),(7,1),(125,0)],[(1,0),(9,0)]),(38,[(1,0),(9,0)],[(4,0)])],res:=[(4,0)]}
def H25:Hints:={ops:=[((12,0),{take:=[6]}),((12,4),{take:=[33]}),((12,7),{take:=[37]}),((15,1),{take:=[6]}),((15,3),{take:=[43]})],live:=[(6,[(0,0),(6,1),(7,0)],[(6,1)])],cuts:=[(4,[(0,0)],[(2,2),(3,0),(4,0)]),(9,[(0,0),(6,1),(7,0)],[(0,0),(6,1),(7,0)]),(12,[(0,0),(6,1),(8,0)],[(0,0),(6,1),(7,0)])],res:=[(2,2),(3,0),(4,0)]}
def H26:Hints:={ops:=[((1,0),{take:=[0]}),((1,1),{take:=[7]}),((7,4),{take:=[29]})],live:=[(5,[(4,0)],[(4,0)])],cuts:=[(4,[(4,0)],[(2,2),(3,0)])],res:=[(2,2),(3,0)]}
def H27:Hints:={ops:=[((1,0),{take:=[0]})]}
def H28:Hints:={ops:=[((1,0),{take:=[0]}),((1,1),{take:=[4]}),((1,2),{take:=[5]}),((2,0),{take:=[3]}),((2,1),{take:=[6]}),((2,4),{take:=[9]}),((3,1),{take:=[10]}),((4,0),{take:=[3]}),((4,1),{take:=[14]})],live:=[(3,[(3,2)],[])],res:=[(2,2)]}
def H29:Hints:={live:=[(3,[(0,0),(3,0),(4,0)],[(3,0)])],res:=[(2,0)]}
def H30:Hints:={}
def H31:Hints:={ops:=[((1,1),{take:=[4]}),((2,0),{take:=[3]})]}
def H32:Hints:={cuts:=[(6,[(0,0),(3,0),(6,0)],[(0,0)]),(11,[(0,0),(3,0),(9,0)],[(0,0)])],res:=[(2,0)]}
def H33:Hints:={ops:=[((10,3),{take:=[31,33]}),((18,4),{cell:=true}),((18,6),{take:=[62]}),((18,9),{take:=[64]}),((19,4),{cell:=true}),((19,10),{take:=[71]}),((19,13),{take:=[77]}),((21,0),{freeze:=[10]}),((24,0),{take:=[4]}),((24,3),{take:=[87]}),((24,4),{take:=[5]}),((24,7),{take:=[91]}),((24,8),{take:=[90]}),((24,9),{take:=[94]}),((27,0),{take:=[0]}),((27,7),{take:=[4]})],live:=[(8,[(0,2),(4,1),(5,1),(23,2),(24,0),(25,0)],[(0,2),(4,1)]),(15,[(0,2),(4,1),(5,1),(6,0),(7,0),(8,0),(10,0),(23,2),(24,0),(25,0),(50,2),(51,0),(52,0)],[(0,2),(4,1),(5,1),(6,0),(8,0),(10,0),(23,2),(24,0),(25,0)])],cuts:=[(5,[(0,2)],[(2,0),(3,0)]),(13,[(0,2),(4,1),(5,1),(6,0),(7,0),(8,0),(23,2),(24,0),(25,0)],[(0,2),(4,1),(5,1),(23,2),(24,0),(25,0)]),(24,[(0,2),(4,1),(5,1),(8,0),(10,0),(23,2),(24,0),(25,0)],[(0,2),(4,1),(5,1),(23,2),(24,0),(25,0)])],objs:=[(15,[(1,[0,0,0,1])])],res:=[(2,0),(3,0)]}
def H34:Hints:={ops:=[((1,0),{take:=[0]}),((1,1),{take:=[7]})],cuts:=[(4,[(4,0)],[(2,0),(3,0)])],res:=[(2,0),(3,0)]}
def H35:Hints:={ops:=[((8,2),{take:=[19]}),((12,9),{take:=[36]}),((12,10),{take:=[0]})],live:=[(6,[(0,2),(4,0)],[(0,2)])],cuts:=[(3,[(0,2)],[(2,0),(3,0)]),(5,[(0,2)],[(2,0),(3,0)])],res:=[(2,0),(3,0)]}
def H36:Hints:={ops:=[((1,1),{take:=[0]})]}
def H37:Hints:={ops:=[((1,0),{take:=[0]}),((1,1),{take:=[9]}),((6,8),{take:=[42]})],cuts:=[(4,[(1,0),(6,0)],[(4,2),(5,0)]),(6,[(1,0),(6,0)],[(4,2),(5,0)])],res:=[(4,2),(5,0)]}
def H38:Hints:={ops:=[((3,2),{take:=[7]}),((5,1),{take:=[14]}),((7,0),{take:=[3]}),((7,2),{take:=[22]}),((7,3),{take:=[24]}),((8,0),{take:=[3]}),((8,3),{take:=[26]}),((8,5),{take:=[25]}),((8,6),{take:=[30]}),((9,0),{take:=[3]}),((9,1),{take:=[31]})],live:=[(3,[(0,2),(3,1),(4,0)],[(3,1)])],res:=[(2,2)]}
def H40:Hints:={ops:=[((5,0),{take:=[3]}),((5,5),{take:=[15]}),((5,7),{take:=[11]}),((5,8),{take:=[18]}),((6,0),{take:=[3]}),((6,1),{take:=[19]})],live:=[(3,[(0,2),(3,1),(4,0)],[(3,1)])],res:=[(2,2)]}
def H41:Hints:={ops:=[((5,0),{take:=[1]}),((5,1),{take:=[16]}),((5,5),{take:=[18]}),((8,1),{take:=[6]}),((8,4),{freeze:=[26]}),((8,7),{take:=[28]})],cuts:=[(3,[(0,0),(1,2)],[(4,2),(5,0)]),(5,[(0,0),(1,2)],[(4,2),(5,0)]),(8,[(0,0),(6,2)],[(4,2),(5,0)])],res:=[(4,2),(5,0)]}
def H42:Hints:={}
def H43:Hints:={ops:=[((5,13),{take:=[21]}),((7,0),{take:=[6]}),((7,7),{take:=[45]}),((7,9),{take:=[39]}),((7,10),{take:=[48]}),((8,2),{take:=[6]}),((8,3),{take:=[51]}),((8,4),{take:=[52]}),((11,0),{take:=[8]}),((11,1),{take:=[56]})],live:=[(3,[(0,0),(1,2),(6,1),(7,0)],[(0,0),(6,1)])],cuts:=[(7,[(0,0),(1,2),(6,1),(7,0)],[(0,0),(1,2),(6,1),(7,0)])],res:=[(4,2),(5,0)]}
def H44:Hints:={live:=[(4,[(0,0),(3,0)],[])],cuts:=[(3,[(0,0)],[(2,0)])],res:=[(2,0)]}
def H45:Hints:={ops:=[((7,1),{cell:=true}),((7,3),{take:=[33]}),((7,5),{take:=[35]}),((19,1),{cell:=true}),((19,4),{take:=[103]}),((19,6),{take:=[106]}),((20,0),{take:=[5]}),((20,3),{take:=[108]}),((20,4),{take:=[111]}),((21,1),{cell:=true}),((21,6),{take:=[113]}),((21,8),{take:=[118]}),((22,0),{take:=[5]}),((22,3),{take:=[120]}),((22,4),{take:=[123]})],live:=[(4,[(1,2),(2,0),(5,1),(6,0),(7,0)],[(2,0),(5,1),(6,0)]),(10,[(1,2),(2,0),(5,1),(6,0),(7,0),(8,0),(9,0)],[(1,2),(2,0),(5,1),(6,0),(7,0)]),(14,[(1,2),(2,0),(5,1),(6,0),(7,0),(8,0),(9,0),(10,0),(11,0)],[(1,2),(2,0),(5,1),(6,0),(7,0),(8,0),(9,0),(10,0)])],cuts:=[(8,[(1,2),(2,0),(5,1),(6,0),(7,0)],[(1,2),(2,0),(5,1),(6,0),(7,0)]),(19,[(1,2),(2,0),(5,1),(6,0),(7,0),(8,0),(9,0),(10,0),(11,0),(12,0)],[(1,2),(2,0),(5,1),(6,0),(7,0),(8,0),(9,0),(10,0),(11,0)])],objs:=[(4,[(0,[0,0,0,2]),(1,[0,0,0,1])]),(10,[(0,[0,0,0,2]),(1,[0,0,0,1])]),(14,[(0,[0,0,0,2]),(1,[0,0,0,1]),(2,[0,0,0,1])])],res:=[(4,2)]}
def H46:Hints:={ops:=[((1,1),{take:=[10]}),((5,0),{take:=[0]}),((8,12),{take:=[32]}),((9,0),{take:=[6]}),((9,4),{take:=[38]}),((9,5),{take:=[42]}),((11,0),{take:=[6]}),((11,1),{take:=[44]})],live:=[(6,[(6,1),(17,2),(18,0),(19,0)],[(6,1)])],cuts:=[(4,[(0,2)],[(2,2),(3,0)])],res:=[(2,2),(3,0)]}
def H47:Hints:={ops:=[((1,0),{take:=[0]}),((1,1),{take:=[15]}),((4,0),{take:=[2]}),((4,1),{take:=[23]}),((10,5),{take:=[43]}),((13,0),{take:=[13]}),((13,2),{take:=[48]})],cuts:=[(4,[(1,0),(2,2),(9,0)],[(6,2),(7,0),(8,0)]),(7,[(1,0),(9,0),(11,0)],[(6,2),(7,0),(8,0)]),(9,[(1,0),(9,0),(11,0)],[(6,2),(7,0),(8,0)])],res:=[(6,2),(7,0),(8,0)]}
def H48:Hints:={live:=[(3,[(0,2),(1,2),(5,0),(13,0),(14,0)],[(5,0)])],res:=[(4,0)]}
def H49:Hints:={ops:=[((6,13),{take:=[24]}),((7,0),{take:=[3]}),((7,7),{take:=[33]}),((7,8),{take:=[40]}),((8,0),{take:=[3]}),((8,1),{take:=[41]})],live:=[(3,[(0,2),(3,1),(4,0)],[(3,1)])],res:=[(2,2)]}
def H51:Hints:={ops:=[((1,5),{take:=[7]})]}
def H52:Hints:={ops:=[((1,8),{take:=[11,12]}),((1,12),{take:=[1]}),((1,13),{take:=[0]}),((1,14),{take:=[17,18]})]}
def H53:Hints:={ops:=[((1,0),{take:=[0]}),((1,1),{take:=[10]}),((4,0),{cell:=true}),((5,2),{push:=true}),((6,0),{push:=true}),((8,0),{push:=true})],cuts:=[(4,[(1,0),(6,0)],[(4,0),(5,0)]),(6,[(8,0)],[(4,0),(5,0)]),(7,[(8,0),(21,0)],[(8,0)]),(8,[(8,0)],[(4,0),(5,0)])],objs:=[(6,[(0,[3,1])]),(7,[(0,[3,1])])],res:=[(4,0),(5,0)]}
def H54:Hints:={ops:=[((1,3),{take:=[6]}),((2,1),{take:=[0]}),((3,0),{take:=[3]}),((3,1),{fza:=[(10,3)],take:=[10]})]}
def H55:Hints:={ops:=[((10,7),{take:=[31]}),((10,14),{take:=[38]})],cuts:=[(6,[(1,0),(12,0)],[]),(8,[(1,0)],[]),(10,[(1,0)],[])],res:=[(2,0)]}
def H56:Hints:={pan:=[(2,0),(3,0),(4,0)],dfr:=some 4}
def H57:Hints:={ops:=[((3,2),{take:=[8]})]}
def H58:Hints:={ops:=[((3,4),{take:=[12]})]}
def H59:Hints:={live:=[(4,[(0,2),(4,0)],[])],cuts:=[(3,[(0,2)],[(2,0),(3,0)])],res:=[(2,0),(3,0)]}
def H60:Hints:={ops:=[((3,4),{take:=[22]}),((5,5),{take:=[29]}),((7,0),{take:=[6]}),((7,2),{take:=[38]}),((8,5),{take:=[43]}),((9,1),{take:=[6]}),((9,2),{take:=[8]}),((9,4),{take:=[48]}),((9,6),{take:=[49]}),((12,5),{take:=[58]}),((13,1),{take:=[9]}),((13,3),{take:=[62]}),((13,5),{take:=[63]}),((18,3),{outer:=true}),((18,4),{outer:=true}),((18,7),{outer:=true}),((18,8),{outer:=true}),((19,5),{take:=[90]}),((20,2),{take:=[11]}),((20,4),{take:=[95]}),((20,5),{take:=[96]}),((21,7),{take:=[102]}),((22,4),{outer:=true}),((22,5),{outer:=true}),((22,8),{outer:=true}),((22,9),{outer:=true}),((23,2),{outer:=true}),((23,3),{outer:=true}),((23,6),{outer:=true}),((23,7),{outer:=true}),((25,0),{take:=[11]}),((25,1),{take:=[139]}),((26,3),{outer:=true}),((26,4),{outer:=true}),((26,7),{outer:=true}),((26,8),{outer:=true}),((28,7),{take:=[153]}),((29,2),{take:=[11]}),((29,3),{take:=[16]}),((29,5),{take:=[159]}),((29,6),{take:=[160]}),((31,0),{take:=[11]}),((31,2),{take:=[163]}),((32,0),{take:=[11]}),((32,2),{take:=[165]})],live:=[(22,[(0,0),(1,0),(11,2),(12,0)],[(11,2),(12,0)])],cuts:=[(8,[(0,0),(6,2)],[(0,0),(1,0)]),(14,[(0,0),(1,0)],[(4,2),(5,0)]),(22,[(0,0),(1,0),(11,2),(12,0)],[(4,2),(5,0)]),(26,[(0,0),(1,0),(11,2),(14,0)],[(0,0),(1,0),(11,2),(12,0)])],res:=[(4,2),(5,0)]}
def H61:Hints:={live:=[(2,[(0,2),(3,0)],[])],res:=[(2,0)]}
def H62:Hints:={}
def H63:Hints:={live:=[(4,[(0,0),(1,0),(4,0),(6,0)],[(0,0),(1,0),(4,0),(6,0)]),(14,[(0,0),(1,0),(4,0),(85,2),(86,0),(87,0)],[(0,0),(1,0),(4,0)]),(20,[(0,0),(1,0),(4,0),(103,2),(104,0),(105,0)],[(4,0)]),(30,[(0,0),(1,0),(4,0),(11,0),(133,2),(134,0),(135,0)],[(0,0),(1,0),(4,0),(11,0)]),(36,[(0,0),(1,0),(4,0),(11,0),(164,2),(165,0),(166,0)],[(4,0),(11,0)])],cuts:=[(8,[(0,0),(1,0),(4,0),(6,0)],[(0,0),(1,0),(4,0)]),(11,[(0,0),(1,0),(4,0),(5,0),(60,0)],[(0,0),(1,0),(4,0)]),(28,[(0,0),(1,0),(4,0)],[(4,0)])],res:=[(4,0)]}
def H64:Hints:={ops:=[((1,1),{take:=[7]}),((4,0),{take:=[0]}),((4,1),{take:=[14]})]}
def H65:Hints:={ops:=[((6,4),{cell:=true}),((6,6),{take:=[37]}),((6,9),{take:=[39]}),((10,4),{cell:=true}),((10,7),{take:=[79]}),((10,10),{take:=[82]}),((12,1),{freeze:=[86]})],live:=[(3,[(0,0),(3,0),(24,2),(25,0),(26,0)],[(3,0)])],cuts:=[(7,[(0,0),(3,0),(4,0),(5,0),(24,2),(25,0),(26,0)],[(0,0),(3,0),(24,2),(25,0),(26,0)]),(10,[(0,0),(3,0),(6,0),(24,2),(25,0),(26,0)],[(0,0),(3,0),(24,2),(25,0),(26,0)])],objs:=[(3,[(0,[0,0,0,1])])],res:=[(2,0)]}
def H67:Hints:={ops:=[((1,0),{take:=[0]}),((16,0),{take:=[2]}),((16,4),{take:=[93,95]})],live:=[(10,[(1,0),(2,2),(8,0),(11,0),(67,2),(68,0),(69,0)],[(1,0),(2,2),(8,0),(11,0)])],cuts:=[(4,[(1,0),(2,2),(8,0)],[(6,0),(7,0)]),(7,[(1,0),(2,2),(8,0)],[(6,0),(7,0)]),(16,[(1,0),(2,2),(8,0)],[(6,0),(7,0)]),(19,[(8,0),(14,0)],[(6,0),(7,0)])],res:=[(6,0),(7,0)]}
def H68:Hints:={live:=[(2,[(0,0),(10,2),(11,0),(12,0)],[(0,0)]),(8,[(0,0),(36,2),(37,0),(38,0)],[])],res:=[(2,0)]}
def H69:Hints:={}
def H70:Hints:={ops:=[((23,3),{take:=[106]}),((38,6),{take:=[175]})],live:=[(8,[(0,2),(1,0),(5,0),(8,0)],[(0,2),(1,0),(5,0)]),(17,[(0,2),(5,0),(10,0),(11,0)],[(0,2),(5,0)]),(29,[(0,2),(5,0),(13,0)],[(0,2),(5,0)]),(35,[(0,2),(5,0),(15,0)],[(0,2),(5,0)]),(41,[(0,2),(5,0),(17,0)],[])],cuts:=[(4,[(0,2),(1,0),(5,0)],[(4,0)]),(7,[(0,2),(1,0),(5,0)],[(4,0)]),(15,[(0,2),(1,0),(5,0)],[(4,0)]),(26,[(0,2),(5,0)],[(4,0)]),(28,[(0,2),(5,0)],[(4,0)])],res:=[(4,0)]}
def H71:Hints:={ops:=[((7,3),{take:=[29]})],live:=[(3,[(0,2),(1,0),(5,0),(6,0)],[(5,0)])],res:=[(4,0)]}
def H72:Hints:={}
def H73:Hints:={ops:=[((6,1),{cell:=true}),((6,3),{take:=[33]}),((6,5),{take:=[35]}),((7,1),{take:=[1]}),((7,2),{take:=[38],own:=true}),((7,3),{take:=[39]}),((8,1),{cell:=true}),((8,6),{take:=[41]}),((8,8),{take:=[46]}),((10,0),{take:=[1]}),((10,3),{take:=[49]}),((10,4),{take:=[52]})],live:=[(3,[(1,1),(5,0),(24,2),(25,0),(26,0)],[(1,1),(5,0)])],cuts:=[(7,[(1,1),(5,0),(7,0),(24,2),(25,0),(26,0)],[(1,1),(5,0),(24,2),(25,0),(26,0)])],objs:=[(3,[(0,[0,0,0,1])])],res:=[(4,2)]}
def H74:Hints:={ops:=[((1,4),{take:=[13]}),((13,1),{cell:=true}),((13,4),{take:=[63]}),((13,6),{take:=[66]}),((14,0),{take:=[6]}),((14,3),{take:=[68]}),((14,4),{take:=[71]}),((15,0),{take:=[6]}),((15,1),{take:=[72]})],live:=[(4,[(0,2),(1,0),(5,0),(6,1),(7,0)],[(6,1)]),(8,[(0,2),(1,0),(5,0),(6,1),(7,0),(8,0),(9,0)],[(0,2),(1,0),(5,0),(6,1),(7,0),(8,0)])],cuts:=[(13,[(0,2),(1,0),(5,0),(6,1),(7,0),(8,0),(9,0),(10,0)],[(0,2),(1,0),(5,0),(6,1),(7,0),(8,0),(9,0)])],objs:=[(8,[(0,[0,0,0,1])])],res:=[(4,2)]}
def H75:Hints:={ops:=[((2,0),{take:=[0]}),((4,2),{take:=[14]}),((5,0),{take:=[6]}),((5,1),{take:=[16]}),((8,0),{take:=[4]}),((8,3),{take:=[23]}),((8,4),{take:=[26]}),((10,0),{take:=[4]}),((10,1),{take:=[28]})],live:=[(3,[(4,1),(9,2),(10,0),(11,0)],[(4,1)])],res:=[(2,2),(3,0)]}
def H76:Hints:={}
def H77:Hints:={ops:=[((3,4),{freeze:=[21]})]}
def H78:Hints:={}
def H79:Hints:={ops:=[((3,7),{take:=[0]})],cuts:=[(3,[(0,2),(1,0)],[(4,0)])],res:=[(4,0)]}
def H80:Hints:={ops:=[((1,1),{take:=[7]}),((2,1),{take:=[2]}),((2,3),{take:=[17]}),((2,4),{take:=[18]}),((3,0),{take:=[2]}),((3,1),{take:=[19]})]}
def H81:Hints:={live:=[(4,[(0,0),(19,0),(20,0)],[])],cuts:=[(3,[(0,0)],[(2,0)])],res:=[(2,0)]}
def H82:Hints:={ops:=[((1,0),{take:=[0]}),((1,2),{take:=[5]})]}
def H83:Hints:={ops:=[((9,4),{cell:=true}),((9,6),{take:=[58]}),((9,9),{take:=[60]}),((13,4),{cell:=true}),((13,7),{take:=[83]}),((13,13),{take:=[86]}),((15,3),{freeze:=[6]})],live:=[(6,[(0,0),(1,0),(2,0),(8,0),(9,0),(45,2),(46,0),(47,0)],[(8,0),(9,0)])],cuts:=[(3,[(0,0),(1,0),(2,0)],[(6,0),(7,0)]),(10,[(0,0),(1,0),(2,0),(8,0),(9,0),(10,0),(11,0),(45,2),(46,0),(47,0)],[(0,0),(1,0),(2,0),(8,0),(9,0),(45,2),(46,0),(47,0)]),(13,[(0,0),(1,0),(2,0),(8,0),(9,0),(12,0),(13,0),(45,2),(46,0),(47,0)],[(0,0),(1,0),(2,0),(8,0),(9,0),(45,2),(46,0),(47,0)])],objs:=[(6,[(0,[0,0,0,1])])],res:=[(6,0),(7,0)]}
def H84:Hints:={ops:=[((2,0),{take:=[0]})],live:=[(3,[(1,0),(5,0),(8,2),(9,0),(10,0)],[(5,0)])],res:=[(4,0)]}
def H85:Hints:={ops:=[((4,5),{take:=[24]})],cuts:=[(4,[(7,0),(8,0)],[(4,2),(5,0),(6,0)])],res:=[(4,2),(5,0),(6,0)]}
def H86:Hints:={ops:=[((2,0),{take:=[0]}),((2,2),{take:=[1]}),((3,16),{take:=[0]}),((3,18),{take:=[1]}),((3,20),{take:=[35,37]})],cuts:=[(3,[(0,2),(1,2)],[(4,0)])],res:=[(4,0)]}
def H87:Hints:={ops:=[((5,5),{take:=[33],push:=true}),((6,1),{push:=true}),((8,4),{take:=[46]}),((10,0),{take:=[8]}),((10,2),{take:=[52]}),((11,1),{take:=[8]}),((11,2),{take:=[54],push:=true}),((14,5),{take:=[68],push:=true}),((15,1),{push:=true})],cuts:=[(6,[(4,0)],[(0,0),(2,0),(4,0),(6,0)]),(15,[(4,0)],[(0,0),(2,0),(4,0),(6,0)]),(22,[(0,0),(2,0),(4,0),(6,0)],[]),(24,[(0,0),(2,0),(4,0),(6,0)],[]),(26,[(0,0),(2,0),(4,0),(6,0)],[])],objs:=[(6,[(0,[3])]),(15,[(0,[3])])],res:=[]}
def H88:Hints:={ops:=[((1,2),{outer:=true}),((1,3),{outer:=true})]}
def H90:Hints:={cuts:=[(5,[(1,0)],[]),(13,[(0,0),(1,0),(39,0)],[])],res:=[(4,0)]}
def H91:Hints:={}
def H92:Hints:={ops:=[((1,1),{take:=[1]})]}
def H93:Hints:={ops:=[((1,1),{take:=[1]})]}
def H94:Hints:={ops:=[((5,2),{outer:=true}),((5,3),{outer:=true})]}
def H95:Hints:={}
def H96:Hints:={live:=[(3,[(3,0),(9,2),(10,0),(11,0)],[(3,0)])],res:=[(2,0)]}
def H97:Hints:={ops:=[((1,0),{take:=[0]}),((1,2),{take:=[5]})]}
def H98:Hints:={}
def H99:Hints:={ops:=[((10,3),{take:=[30]}),((10,9),{take:=[36]})]}
def ac5:Hints:={ops:=[((1,2),{outer:=true}),((1,3),{outer:=true}),((1,6),{outer:=true}),((1,7),{outer:=true}),((3,2),{outer:=true}),((3,3),{outer:=true}),((3,6),{outer:=true}),((3,7),{outer:=true}),((4,3),{outer:=true}),((4,4),{outer:=true}),((4,7),{outer:=true}),((4,8),{outer:=true}),((6,6),{take:=[49]}),((9,4),{take:=[60]}),((11,5),{take:=[64]}),((14,0),{take:=[5]}),((14,1),{take:=[6]}),((14,3),{take:=[68]}),((14,4),{take:=[71]}),((16,3),{take:=[5]}),((16,4),{take:=[77]}),((16,5),{take:=[78]}),((20,5),{take:=[89]}),((22,1),{take:=[8]}),((22,3),{take:=[98]}),((22,4),{take:=[99]}),((24,5),{take:=[108]}),((25,10),{take:=[116]}),((25,17),{take:=[123]}),((26,1),{take:=[8]}),((26,2),{take:=[10]}),((26,4),{take:=[142]}),((26,5),{take:=[143]})],live:=[(11,[(0,0),(4,0),(5,1)],[])],cuts:=[(3,[(0,0)],[(2,2),(3,0)]),(10,[(0,0),(4,0)],[]),(14,[(0,0),(4,0),(5,1),(6,2)],[(0,0),(4,0),(5,1)]),(23,[(0,0),(8,2),(9,0)],[])],res:=[(2,2),(3,0)]}
def ac6:Hints:={ops:=[((2,3),{outer:=true}),((2,4),{outer:=true}),((2,7),{outer:=true}),((2,8),{outer:=true})]}
def ac7:Hints:={ops:=[((1,2),{outer:=true}),((1,3),{outer:=true}),((1,6),{outer:=true}),((1,7),{outer:=true}),((1,13),{outer:=true}),((1,14),{outer:=true}),((1,17),{outer:=true}),((1,18),{outer:=true})]}
def ac8:Hints:={ops:=[((1,1),{take:=[6]})],live:=[(3,[(1,0),(4,2),(5,0)],[])],res:=[(2,0),(3,0)]}
def ac9:Hints:={live:=[(4,[(0,0),(5,0)],[])],cuts:=[(3,[(0,0)],[(4,0)])],res:=[(4,0)]}
def ada:Hints:={}
def adb:Hints:={}
def adc:Hints:={ops:=[((1,1),{arr:=true}),((1,2),{take:=[6]}),((5,3),{arr:=true}),((5,9),{arr:=true}),((6,5),{arr:=true}),((7,0),{take:=[3]})],live:=[(3,[(3,0),(4,0)],[(3,0)])],res:=[(2,0)]}
def ade:Hints:={ops:=[((4,0),{own:=true}),((4,2),{take:=[28]})],live:=[(5,[(0,0),(1,0),(4,0),(5,0),(6,0),(7,0),(30,2),(31,0),(32,0)],[(0,0),(1,0),(4,0),(5,0),(6,0),(7,0)])],cuts:=[(14,[(0,0),(1,0),(4,0),(5,0),(6,0),(7,0),(10,0),(11,0)],[(4,0)]),(20,[(0,0),(1,0),(4,0),(5,0),(6,0),(10,0),(11,0),(12,0),(13,0),(14,0),(15,0)],[(0,0),(1,0),(4,0),(5,0),(6,0),(10,0),(11,0),(12,0),(13,0),(14,0)]),(24,[(0,0),(1,0),(4,0),(5,0),(6,0),(10,0),(11,0),(12,0),(15,0),(16,0)],[(0,0),(1,0),(4,0),(5,0),(6,0),(10,0),(11,0),(12,0),(13,0),(14,0)]),(28,[(0,0),(1,0),(4,0),(5,0),(6,0),(10,0),(11,0),(12,0),(13,0),(14,0),(15,0),(16,0)],[(0,0),(1,0),(4,0),(5,0),(6,0),(10,0),(11,0),(12,0),(13,0),(14,0)]),(31,[(0,0),(1,0),(4,0),(5,0),(6,0),(10,0),(11,0),(12,0),(13,0),(14,0)],[(4,0)]),(34,[(0,0),(1,0),(4,0),(5,0),(6,0)],[(0,0),(1,0),(4,0),(5,0),(6,0),(10,0),(11,0),(12,0),(13,0)]),(38,[(0,0),(1,0),(4,0),(5,0),(6,0),(10,0),(11,0),(12,0),(13,0)],[(4,0)]),(41,[(0,0),(1,0),(4,0),(5,0),(6,0),(12,0),(13,0),(18,0)],[(4,0)]),(44,[(4,0),(6,0),(12,0),(13,0),(19,0),(20,0)],[(4,0)])],res:=[(4,0)]}
def adf:Hints:={ops:=[((1,1),{take:=[1]})]}
def adg:Hints:={}
def adh:Hints:={live:=[(4,[(0,0),(4,0),(5,0),(6,0),(7,0)],[(4,0)])],cuts:=[(8,[(0,0),(4,0),(5,0),(6,0),(7,0)],[(0,0),(4,0),(5,0),(6,0),(7,0)]),(11,[(4,0),(6,0),(7,0)],[(0,0),(4,0),(5,0),(6,0),(7,0)]),(13,[(4,0),(6,0),(7,0)],[(0,0),(4,0),(5,0),(6,0),(7,0)])],res:=[(4,0)]}
def adi:Hints:={ops:=[((1,7),{take:=[7]})]}
def adj:Hints:={ops:=[((1,1),{take:=[1]})]}
def BZ:Hints:={ops:=[((1,3),{take:=[11]}),((10,4),{cell:=true}),((10,6),{take:=[40]}),((10,9),{take:=[42]}),((11,4),{cell:=true}),((11,8),{arr:=true}),((11,10),{take:=[49]}),((11,13),{take:=[55]}),((13,2),{freeze:=[6]}),((15,0),{take:=[3]}),((15,1),{take:=[0]}),((15,5),{arr:=true})],live:=[(3,[(0,2),(3,0),(12,2),(13,0),(14,0)],[(0,2),(3,0)]),(7,[(0,2),(3,0),(4,0),(5,0),(6,0),(12,2),(13,0),(14,0),(28,2),(29,0),(30,0)],[(0,2),(3,0),(4,0),(6,0),(12,2),(13,0),(14,0)])],objs:=[(7,[(2,[0,0,0,1])])],res:=[(2,0)]}
def adk:Hints:={ops:=[((1,4),{take:=[11]}),((2,6),{take:=[7]})]}
def adl:Hints:={}
def adm:Hints:={}
def adn:Hints:={}
def ado:Hints:={cuts:=[(4,[(4,0),(5,0)],[])],res:=[(2,0),(3,0)]}
def adp:Hints:={}
def adq:Hints:={ops:=[((7,6),{take:=[51]}),((8,8),{take:=[5]})],cuts:=[(3,[(0,0),(1,0)],[(4,0)]),(5,[(0,0),(1,0)],[(4,0)]),(7,[(0,0),(1,0)],[(4,0)])],res:=[(4,0)]}
def adr:Hints:={}
def ads:Hints:={}
def adt:Hints:={}
def Ir:Hints:={live:=[(2,[(0,2),(1,0),(7,0),(8,0)],[])],res:=[(4,0)]}
def m8:Hints:={ops:=[((4,3),{freeze:=[4]}),((5,1),{push:=true}),((7,4),{freeze:=[4]}),((8,0),{freeze:=[7]})],cuts:=[(5,[(7,0)],[(4,0),(5,0),(6,0)]),(6,[(7,0),(9,0),(10,0)],[(7,0)]),(8,[(7,0)],[(4,0),(5,0),(6,0)]),(10,[(7,0)],[(4,0),(5,0),(6,0)])],objs:=[(6,[(0,[0,0,1,1])])],res:=[(4,0),(5,0),(6,0)]}
def PB:Hints:={ops:=[((0,0),{take:=[1]}),((4,0),{outer:=true}),((6,1),{outer:=true})],live:=[(1,[(0,0),(2,0),(7,2),(8,0),(9,0)],[])],res:=[]}
def adu:Hints:={ops:=[((2,3),{outer:=true}),((2,4),{cell:=true,outer:=true}),((2,6),{take:=[12]}),((2,8),{outer:=true}),((2,9),{take:=[14],outer:=true})]}
def adv:Hints:={ops:=[((2,3),{outer:=true}),((2,4),{cell:=true,outer:=true}),((2,7),{take:=[11]}),((2,9),{outer:=true}),((2,10),{take:=[14],outer:=true})]}
def adw:Hints:={}
def PC:Hints:={cuts:=[(4,[(2,0),(4,0)],[(2,0),(3,0)])],res:=[(2,0),(3,0)]}
def adx:Hints:={}
def ady:Hints:={}
def adz:Hints:={}
def pp:Hints:={ops:=[((7,6),{freeze:=[28]}),((11,5),{freeze:=[38]}),((17,2),{outer:=true}),((17,3),{outer:=true}),((17,6),{outer:=true}),((17,7),{outer:=true}),((18,7),{freeze:=[66]}),((24,2),{outer:=true}),((24,3),{outer:=true}),((24,6),{outer:=true}),((24,7),{outer:=true}),((25,9),{freeze:=[96]})],live:=[(21,[(0,0),(1,0),(9,0)],[])],cuts:=[(20,[(0,0),(1,0)],[(4,0)]),(24,[(0,0),(1,0),(9,0),(10,0)],[(0,0),(1,0),(9,0)])],res:=[(4,0)]}
def Fa:Hints:={live:=[(2,[(0,2),(1,0),(7,0),(8,0)],[])],res:=[(4,0)]}
def adA:Hints:={ops:=[((1,0),{arr:=true}),((1,1),{take:=[8]}),((4,5),{take:=[25]}),((7,2),{take:=[6]}),((7,4),{take:=[31]}),((11,3),{outer:=true}),((11,4),{outer:=true}),((11,9),{outer:=true}),((11,10),{outer:=true}),((13,0),{take:=[4]}),((13,2),{arr:=true}),((13,3),{take:=[65]}),((14,1),{fza:=[(4,24)],take:=[4]}),((14,2),{take:=[67]}),((14,3),{take:=[68]})],live:=[(3,[(0,0),(4,0),(5,0)],[(4,0),(5,0)])],cuts:=[(10,[(0,0),(4,0),(5,0)],[(0,0),(4,0),(5,0)])],res:=[(2,2),(3,0)]}
def adB:Hints:={live:=[(2,[(0,0),(1,0),(5,0)],[(5,0)])],res:=[(4,0)]}
def adC:Hints:={live:=[(3,[(0,0),(3,0),(4,0)],[(3,0)])],res:=[(2,0)]}
def adD:Hints:={live:=[(1,[(0,0)],[(0,0)])],res:=[(2,0)]}
def adE:Hints:={}
def adF:Hints:={live:=[(1,[(0,0)],[(0,0)])],res:=[(2,0)]}
def adG:Hints:={}
def adH:Hints:={cuts:=[(4,[(0,0)],[(0,0)]),(5,[(0,0)],[(2,0)])],res:=[(2,0)]}
def adI:Hints:={live:=[(3,[(0,0),(3,0),(4,0)],[(3,0)])],res:=[(2,0)]}
def adJ:Hints:={}
def ra:Hints:={ops:=[((2,3),{outer:=true}),((2,4),{outer:=true}),((2,10),{outer:=true}),((2,11),{outer:=true}),((4,3),{outer:=true}),((4,4),{outer:=true}),((7,3),{outer:=true}),((7,4),{cell:=true,outer:=true}),((7,7),{take:=[42]}),((7,10),{outer:=true}),((7,11),{take:=[45],outer:=true})],live:=[(2,[(0,0),(2,0),(3,0),(6,0)],[(0,0),(2,0),(3,0),(6,0)])],cuts:=[(6,[(0,0),(2,0),(3,0),(6,0)],[(0,0),(2,0),(3,0),(6,0)])],res:=[(2,0),(3,0),(6,0)],pan:=[(2,0),(3,0),(6,0)],dfr:=some 6}
def adK:Hints:={}
def jD:Hints:={ops:=[((1,2),{outer:=true}),((1,3),{outer:=true}),((1,6),{outer:=true}),((1,7),{outer:=true}),((3,2),{outer:=true}),((3,3),{outer:=true}),((3,6),{outer:=true}),((3,7),{outer:=true}),((4,2),{outer:=true}),((4,3),{outer:=true}),((4,6),{outer:=true}),((4,7),{outer:=true}),((6,6),{freeze:=[43]}),((8,5),{cell:=true}),((10,4),{freeze:=[65]}),((19,5),{freeze:=[92]}),((21,4),{freeze:=[98]})],cuts:=[(3,[(0,0)],[(2,0)]),(13,[(0,0)],[(2,0)]),(18,[(0,0),(4,0),(5,0)],[(0,0),(4,0)]),(20,[(0,0),(4,0)],[(2,0)])],res:=[(2,0)]}
def PD:Hints:={ops:=[((3,2),{outer:=true}),((3,3),{outer:=true}),((3,6),{outer:=true}),((3,7),{outer:=true})],cuts:=[(3,[(0,0)],[(4,0)])],res:=[(4,0)]}
def It:Hints:={live:=[(2,[(0,0),(1,0),(8,0),(9,0)],[])],res:=[(4,0),(5,0)]}
def adL:Hints:={ops:=[((1,2),{outer:=true}),((1,3),{outer:=true}),((1,6),{outer:=true}),((1,7),{outer:=true}),((1,13),{outer:=true}),((1,14),{outer:=true}),((1,17),{outer:=true}),((1,18),{outer:=true}),((2,2),{outer:=true}),((2,3),{outer:=true}),((2,6),{outer:=true}),((2,7),{outer:=true})]}
def Fb:Hints:={ops:=[((3,5),{freeze:=[13]}),((5,5),{freeze:=[20]})],cuts:=[(4,[(0,0),(1,0)],[(0,0),(1,0)])],res:=[(4,0)]}
def adM:Hints:={}
def adN:Hints:={ops:=[((5,2),{outer:=true})]}
def iO:Hints:={ops:=[((1,2),{outer:=true}),((1,3),{outer:=true})],cuts:=[(6,[(0,0),(1,0),(4,0),(6,0)],[(4,0),(5,0)]),(18,[(4,0),(14,0),(15,0)],[(0,0),(1,0),(4,0)]),(23,[(0,0),(1,0),(4,0)],[(4,0),(5,0)])],res:=[(4,0),(5,0)]}
def adO:Hints:={}
def B0:Hints:={ops:=[((2,0),{take:=[3]}),((2,4),{take:=[4]}),((2,5),{take:=[8]}),((5,0),{take:=[3]}),((5,1),{take:=[14]})],live:=[(2,[(0,0),(3,1)],[(0,0),(3,1)])],res:=[(2,2)]}
def adP:Hints:={}
def adQ:Hints:={}
def B1:Hints:={ops:=[((1,2),{outer:=true}),((1,3),{outer:=true}),((3,2),{outer:=true}),((3,3),{outer:=true}),((5,2),{outer:=true}),((5,3),{outer:=true}),((5,6),{outer:=true}),((5,7),{outer:=true}),((6,7),{take:=[31]})],cuts:=[(3,[(0,0)],[(2,0)]),(5,[(0,0)],[(2,0)])],res:=[(2,0)]}
def sq:Hints:={ops:=[((6,5),{outer:=true}),((6,6),{outer:=true}),((9,2),{outer:=true}),((9,3),{outer:=true})],cuts:=[(6,[(0,0),(4,0),(10,0),(11,0)],[(4,0),(5,0),(6,0)]),(8,[(0,0),(4,0),(10,0),(11,0)],[(4,0),(5,0),(6,0)])],res:=[(4,0),(5,0),(6,0)]}
def PE:Hints:={ops:=[((2,3),{outer:=true}),((2,4),{outer:=true}),((4,2),{outer:=true}),((4,3),{outer:=true})],cuts:=[(4,[(0,0),(1,0)],[(4,0),(5,0)])],res:=[(4,0),(5,0)]}
def B2:Hints:={ops:=[((4,0),{take:=[8]}),((5,0),{take:=[8]}),((5,3),{take:=[28]}),((5,5),{take:=[31]})],live:=[(2,[(0,0),(1,0),(2,0),(8,1)],[])],cuts:=[(5,[(0,0),(2,0),(8,1),(9,0),(10,0)],[(0,0),(1,0),(2,0),(8,1)])],res:=[(6,0),(7,0)]}
def adR:Hints:={}
def fv:Hints:={cuts:=[(9,[(0,0),(1,0),(4,0),(6,0),(7,0),(8,0)],[(4,0),(5,0)]),(12,[(1,0),(4,0),(6,0),(7,0),(14,0),(15,0),(16,0),(17,0)],[(4,0),(5,0)]),(14,[(1,0),(4,0),(6,0),(7,0),(14,0),(15,0),(17,0)],[(4,0),(5,0)]),(16,[(1,0),(4,0),(6,0),(7,0),(14,0),(15,0),(17,0)],[(4,0),(5,0)]),(21,[(1,0),(4,0),(14,0),(17,0),(18,0),(19,0)],[(4,0),(5,0)]),(23,[(1,0),(4,0),(18,0),(19,0)],[(4,0),(5,0)])],res:=[(4,0),(5,0)]}
def PF:Hints:={ops:=[((7,2),{take:=[38]})],cuts:=[(4,[(0,0),(8,0)],[(4,0),(5,0),(6,0)])],res:=[(4,0),(5,0),(6,0)]}
def ow:Hints:={ops:=[((1,2),{outer:=true}),((1,3),{outer:=true}),((6,2),{outer:=true}),((6,3),{outer:=true}),((9,3),{outer:=true}),((9,4),{outer:=true}),((11,2),{outer:=true}),((11,3),{outer:=true})],live:=[(6,[(0,0),(1,0),(4,0),(6,0),(7,0),(8,0)],[(0,0),(1,0),(4,0),(7,0),(8,0)])],cuts:=[(9,[(0,0),(1,0),(4,0),(6,0),(7,0),(8,0),(9,0)],[(0,0),(1,0),(4,0),(6,0),(7,0),(8,0)]),(15,[(0,0),(1,0),(4,0),(7,0),(8,0)],[(4,0),(5,0)])],res:=[(4,0),(5,0)]}
def m9:Hints:={ops:=[((7,5),{take:=[45]}),((13,2),{take:=[65]})],cuts:=[(7,[(4,0),(6,0),(7,0),(8,0),(9,0),(10,0)],[(4,0),(5,0)]),(9,[(4,0),(6,0),(7,0)],[(4,0),(5,0)]),(13,[(4,0),(7,0),(13,0)],[(4,0),(5,0)])],res:=[(4,0),(5,0)]}
def gD:Hints:={ops:=[((3,1),{push:=true}),((4,1),{push:=true}),((6,0),{push:=true}),((8,1),{push:=true}),((9,1),{push:=true}),((10,0),{cell:=true}),((10,2),{push:=true,hide:=some 3}),((10,4),{take:=[23]}),((10,5),{take:=[27]}),((11,0),{cell:=true}),((11,2),{take:=[28]}),((11,3),{take:=[30]}),((12,3),{freeze:=[33]})],cuts:=[(4,[(1,0),(3,0),(4,0)],[(2,0)]),(5,[(1,0),(3,0),(4,0),(10,0)],[(1,0),(3,0),(4,0)]),(7,[(3,0)],[(1,0),(3,0),(4,0)]),(8,[(1,0),(3,0),(4,0)],[(2,0)]),(9,[(1,0),(3,0)],[(2,0)]),(10,[(1,0),(3,0),(22,0)],[(3,0)]),(12,[(3,0)],[(2,0)])],objs:=[(4,[(0,[3]),(1,[1])]),(5,[(0,[3]),(1,[1])]),(7,[(0,[3]),(1,[1])]),(9,[(0,[3]),(1,[1])]),(10,[(0,[3]),(1,[1])]),(12,[(0,[3])])],res:=[(2,0)]}
def PG:Hints:={ops:=[((3,3),{outer:=true}),((3,4),{cell:=true,outer:=true}),((3,7),{take:=[17]}),((3,9),{outer:=true}),((3,10),{take:=[20],outer:=true})],live:=[(1,[(0,0),(2,0),(6,0)],[])],res:=[]}
def adS:Hints:={}
def PH:Hints:={ops:=[((1,2),{outer:=true}),((1,3),{outer:=true}),((1,8),{outer:=true}),((1,9),{outer:=true}),((1,16),{outer:=true}),((1,17),{outer:=true})],live:=[(1,[(0,0),(1,0)],[(1,0)])],res:=[(4,0)]}
def rb:Hints:={cuts:=[(5,[(0,0),(4,0),(9,0)],[(4,0),(5,0),(6,0),(7,0)]),(11,[(0,0),(4,0),(9,0),(10,0)],[(4,0),(5,0),(6,0),(7,0)])],res:=[(4,0),(5,0),(6,0),(7,0)]}
def adT:Hints:={}
def adU:Hints:={}
def adV:Hints:={}
def adW:Hints:={ops:=[((1,8),{freeze:=[2]})]}
def adX:Hints:={ops:=[((0,0),{outer:=true}),((1,0),{cell:=true,outer:=true}),((1,2),{take:=[4]}),((1,3),{take:=[6],outer:=true}),((2,0),{cell:=true,outer:=true}),((2,1),{outer:=true}),((2,2),{hide:=some 1}),((2,4),{take:=[7]}),((2,5),{take:=[11],outer:=true})]}
def adY:Hints:={ops:=[((1,3),{take:=[3]})]}
def Y2:FuncId->Hints
 |3=>H3|4=>H4|5=>H5|6=>H6|7=>H7|8=>H8|9=>H9|10=>H10|11=>H11|12=>H12|13=>H13|14=>H14|15=>H15|16=>H16|17=>H17|18=>H18|19=>H19|20=>H20|21=>H21|22=>H22|23=>H23|24=>H24|25=>H25|26=>H26|27=>H27|28=>H28|29=>H29|30=>H30|31=>H31|32=>H32|33=>H33|34=>H34|35=>H35|36=>H36|37=>H37|38=>H38|40=>H40|41=>H41|42=>H42|43=>H43|44=>H44|45=>H45|46=>H46|47=>H47|48=>H48|49=>H49|51=>H51|52=>H52|53=>H53|54=>H54|55=>H55|56=>H56|57=>H57|58=>H58|59=>H59|60=>H60|61=>H61|62=>H62|63=>H63|64=>H64|65=>H65|67=>H67|68=>H68|69=>H69|70=>H70|71=>H71|72=>H72|73=>H73|74=>H74|75=>H75|76=>H76|77=>H77|78=>H78|79=>H79|80=>H80|81=>H81|82=>H82|83=>H83|84=>H84|85=>H85|86=>H86|87=>H87|88=>H88|90=>H90|91=>H91|92=>H92|93=>H93|94=>H94|95=>H95|96=>H96|97=>H97|98=>H98|99=>H99|100=>ac5|101=>ac6|102=>ac7|103=>ac8|104=>ac9|105=>ada|106=>adb|107=>adc|108=>ade|109=>adf|110=>adg|111=>adh|112=>adi|113=>adj|114=>BZ|115=>adk|116=>adl|118=>adm|119=>adn|120=>ado|121=>adp|122=>adq|123=>adr|124=>ads|125=>adt|126=>Ir|127=>m8|128=>PB|129=>adu|130=>adv|132=>adw|134=>PC|135=>adx|137=>ady|138=>adz|139=>pp|140=>Fa|141=>adA|142=>adB|143=>adC|144=>adD|145=>adE|146=>adF|147=>adG|148=>adH|149=>adI|151=>adJ|152=>ra|160=>adK|161=>jD|162=>PD|163=>It|164=>adL|165=>Fb|167=>adM|168=>adN|169=>iO|183=>adO|184=>B0|185=>adP|186=>adQ|187=>B1|188=>sq|189=>PE|190=>B2|191=>adR|192=>fv|193=>PF|194=>ow|195=>m9|204=>gD|205=>PG|206=>adS|207=>PH|208=>rb|209=>adT|210=>adU|212=>adV|215=>adW|222=>adX|223=>adY|_=>{}
def qU:FuncId->Option (UInt8->Bool)
 |186=>some λb=>decide (b.toNat<32)||decide (126<b.toNat)|132=>some λb=>decide (b.toNat<48)||decide (57<b.toNat)|137=>some λb=> !((decide (97<=b.toNat)&&decide (b.toNat<=122))||(decide (65<=b.toNat)&&decide (b.toNat<=90))||(decide (48<=b.toNat)&&decide (b.toNat<=57))||decide (b.toNat=95))|_=>none
def Rr:FuncId->Option g8
 |136=>some (xf)|133=>some (HY 201)|199=>some (El)|214=>some (rL)|211=>some (qi)|225=>some (ub)|226=>some (rM)|213=>some (Ek)|224=>some (qh)|131=>some (ly qU)|117=>some (qM)|153=>some (mX 130)|89=>some (vg 130)|_=>none
noncomputable def E:Env:={P:=Tryz.prog,hints:=Y2,prim:=Rr}
def jo {β:Type}(v:LV)(k:Int->Int->List UInt8->Option β):Option β:=opt (fJ v) λcs=>opt (bC cs) λq0=>opt (bI .i64 (.cv q0.1)) λx0=>opt (bC q0.2) λq1=>opt (bI .i64 (.cv q1.1)) λx1=>opt (bC q1.2) λq2=>opt (cf (.cv q2.1)) λx2=>opt (bS q2.2) λ_=>k x0 x1 x2
def xk {β:Type}(v:LV)(k:Int->Int->List UInt8->List CV->Option β):Option β:=opt (fJ v) λcs=>opt (bC cs) λq0=>opt (bI .i64 (.cv q0.1)) λx0=>opt (bC q0.2) λq1=>opt (bI .i64 (.cv q1.1)) λx1=>opt (bC q1.2) λq2=>opt (cf (.cv q2.1)) λx2=>opt (bC q2.2) λq3=>opt (cR (.cv q3.1)) λx3=>opt (bS q3.2) λ_=>k x0 x1 x2 x3
def fW {β:Type}(v:LV)(k:Int->Int->Int->List CV->List UInt8->Option β):Option β:=opt (fJ v) λcs=>opt (bC cs) λq0=>opt (bI .i64 (.cv q0.1)) λx0=>opt (bC q0.2) λq1=>opt (bI .i64 (.cv q1.1)) λx1=>opt (bC q1.2) λq2=>opt (bI .i64 (.cv q2.1)) λx2=>opt (bC q2.2) λq3=>opt (cR (.cv q3.1)) λx3=>opt (bC q3.2) λq4=>opt (cf (.cv q4.1)) λx4=>opt (bS q4.2) λ_=>k x0 x1 x2 x3 x4
noncomputable section
def cA (f:FuncId)(p:List Nat):Code:=aah E.P f p
def dgN:Nat->Nat->List Nat->List Nat
 |0,_,l=>l|f+1,n,l=>match Nat.ble n 1 with
  |true=>l|false=>dgN f (n/2) (n%2::l)
def cN (f n:Nat):Code:=cA f (dgN 99 n [])
def mS (fr:List (Nat×LV))(lam:Lam)(p:Bool:=false):S:={fr:=gJ fr,lam:=lam,pushed:=p}
def kS (ρ:Rho)(H:Hints)(ks:List Kont)(lv:List (Nat×Nat))(st:St):Option St:=nf E.P ρ H ks st (abl H lv)
def kB (ρ:Rho)(f:FuncId)(H:Hints)(ks:List Kont)(st:St):Option Out:=nf E.P ρ H ks st (YA E.P (H1 E.P f))
def kR (ρ:Rho)(H:Hints)(ks:List Kont)(lv:List (Nat×Nat))(c:Code)(st:St):Option St:=nf E.P ρ H ks st (Xn E.P ρ H lv c)
abbrev pX (f:CV->Mu->St)(v:CV)(μ:Mu):Option St:=some (f v μ)
abbrev pP (v:CV)(μ:Mu):Option Out:=bB (below μ.length v) (some (.panic v μ))
abbrev pN {α:Type}(_:CV)(_:Mu):Option α:=none
structure SegD where
 H:Hints
 lv:List (Nat×Nat)
 c:Code
 s:S
def SegD.seg (d:SegD)(ρ:Rho)(μ:Mu):Option St:=ρ.seg d.H d.lv d.c d.s μ
def SegD.loop (d:SegD)(ρ:Rho)(μ:Mu):Option St:=ρ.loop d.H d.lv d.c d.s μ
def SegD.sK (d:SegD)(ρ:Rho)(μ:Mu):Option St:=zT E.P ρ d.H d.lv d.c d.s μ
def SegD.rK (d:SegD)(ρ:Rho)(μ:Mu):Option St:=qT E.P ρ d.H d.lv d.c d.s μ
def cm {d:SegD}{μ:Mu}{st:St}(h:d.sK (ev E) μ=some st):d.seg (ev E) μ=some st:=Tp h
def dy {d:SegD}{μ:Mu}{st:St}(h:d.rK (ev E) μ=some st):d.loop (ev E) μ=some st:=OK h
end
end Go.Abs
namespace Go.Proofs
open Go.Shelf
def Tryz.lays169_ren:Go.Shelf.Ren:=⟨λ|169=>89|n=>n,λ|70=>127|9=>9|0=>0|72=>130|37=>128|127=>170|3=>3|5=>5|n=>n,λ|n=>n⟩
def Tryz.Builder_Extra_169 : Builder.Extra Tryz.prog Tryz.lays169_ren := {
 sizeBuilder:=by kernel_rfl
 liesBuilder:=by kernel_rfl
 t5:=Tryz.underlying5
 a5:=Tryz.isAgg5
 z5:=Tryz.sizeOf5
 v5:=Tryz.zeroValue5
 infoByte:=by kernel_rfl
 cellsByte:=by kernel_rfl
 sizeByte:=by kernel_rfl
 neB5:=by decide}
def Tryz.lays158_ren:Go.Shelf.Ren:=⟨λ|158=>136|165=>157|166=>129|167=>130|169=>89|230=>158|203=>159|240=>153|241=>177|197=>178|118=>179|168=>180|270=>181|262=>182|276=>170|277=>200|260=>201|242=>202|313=>203|278=>219|274=>220|275=>221|n=>n,λ|9=>9|4=>4|3=>3|5=>5|72=>130|0=>0|76=>166|75=>165|107=>187|70=>127|20=>20|37=>128|127=>170|21=>21|105=>204|164=>195|162=>231|203=>229|119=>247|46=>223|139=>250|138=>249|51=>251|160=>252|208=>260|206=>258|80=>133|n=>n,λ|13=>2|3=>4|4=>5|n=>n⟩
def Tryz.lays158 : Go.Proofs.Lays.n158 Tryz.prog Tryz.lays158_ren := {
 mixed:=by kernel_rfl
 f118:=Tryz.func179.trans (congrArg some (by kernel_rfl))
 f158:=Tryz.func136.trans (congrArg some (by kernel_rfl))
 f165:=Tryz.func157.trans (congrArg some (by kernel_rfl))
 f166:=Tryz.func129.trans (congrArg some (by kernel_rfl))
 f167:=Tryz.func130.trans (congrArg some (by kernel_rfl))
 f168:=Tryz.func180.trans (congrArg some (by kernel_rfl))
 f169:=Tryz.func89.trans (congrArg some (by kernel_rfl))
 f197:=Tryz.func178.trans (congrArg some (by kernel_rfl))
 f203:=Tryz.func159.trans (congrArg some (by kernel_rfl))
 f230:=Tryz.func158.trans (congrArg some (by kernel_rfl))
 f240:=Tryz.func153.trans (congrArg some (by kernel_rfl))
 f241:=Tryz.func177.trans (congrArg some (by kernel_rfl))
 f242:=Tryz.func202.trans (congrArg some (by kernel_rfl))
 f260:=Tryz.func201.trans (congrArg some (by kernel_rfl))
 f262:=Tryz.func182.trans (congrArg some (by kernel_rfl))
 f270:=Tryz.func181.trans (congrArg some (by kernel_rfl))
 f274:=Tryz.func220.trans (congrArg some (by kernel_rfl))
 f275:=Tryz.func221.trans (congrArg some (by kernel_rfl))
 f276:=Tryz.func170.trans (congrArg some (by kernel_rfl))
 f277:=Tryz.func200.trans (congrArg some (by kernel_rfl))
 f278:=Tryz.func219.trans (congrArg some (by kernel_rfl))
 f313:=Tryz.func203.trans (congrArg some (by kernel_rfl))
 t0:=Tryz.underlying0
 a0:=Tryz.isAgg0
 z0:=Tryz.sizeOf0
 v0:=Tryz.zeroValue0
 t3:=Tryz.underlying3
 a3:=Tryz.isAgg3
 z3:=Tryz.sizeOf3
 v3:=Tryz.zeroValue3
 t4:=Tryz.underlying4
 a4:=Tryz.isAgg4
 z4:=Tryz.sizeOf4
 v4:=Tryz.zeroValue4
 t5:=Tryz.underlying5
 a5:=Tryz.isAgg5
 z5:=Tryz.sizeOf5
 v5:=Tryz.zeroValue5
 t9:=Tryz.underlying9
 a9:=Tryz.isAgg9
 z9:=Tryz.sizeOf9
 v9:=Tryz.zeroValue9
 t20:=Tryz.underlying20
 a20:=Tryz.isAgg20
 z20:=Tryz.sizeOf20
 v20:=Tryz.zeroValue20
 t21:=Tryz.underlying21
 a21:=Tryz.isAgg21
 z21:=Tryz.sizeOf21
 v21:=Tryz.zeroValue21
 t37:=Tryz.underlying128
 a37:=Tryz.isAgg128
 z37:=Tryz.sizeOf128
 v37:=Tryz.zeroValue128
 t46:=Tryz.underlying223
 a46:=Tryz.isAgg223
 z46:=Tryz.sizeOf223
 v46:=Tryz.zeroValue223
 t51:=Tryz.underlying251
 a51:=Tryz.isAgg251
 z51:=Tryz.sizeOf251
 v51:=Tryz.zeroValue251
 t70:=Tryz.underlying127
 a70:=Tryz.isAgg127
 z70:=Tryz.sizeOf127
 v70:=Tryz.zeroValue127
 t72:=Tryz.underlying130
 a72:=Tryz.isAgg130
 z72:=Tryz.sizeOf130
 v72:=Tryz.zeroValue130
 t75:=Tryz.underlying165
 a75:=Tryz.isAgg165
 z75:=Tryz.sizeOf165
 v75:=Tryz.zeroValue165
 t76:=Tryz.underlying166
 a76:=Tryz.isAgg166
 z76:=Tryz.sizeOf166
 v76:=Tryz.zeroValue166
 t105:=Tryz.underlying204
 a105:=Tryz.isAgg204
 z105:=Tryz.sizeOf204
 v105:=Tryz.zeroValue204
 t107:=Tryz.underlying187
 a107:=Tryz.isAgg187
 z107:=Tryz.sizeOf187
 v107:=Tryz.zeroValue187
 t119:=Tryz.underlying247
 a119:=Tryz.isAgg247
 z119:=Tryz.sizeOf247
 t127:=Tryz.underlying170
 a127:=Tryz.isAgg170
 z127:=Tryz.sizeOf170
 v127:=Tryz.zeroValue170
 t138:=Tryz.underlying249
 a138:=Tryz.isAgg249
 z138:=Tryz.sizeOf249
 v138:=Tryz.zeroValue249
 t139:=Tryz.underlying250
 a139:=Tryz.isAgg250
 z139:=Tryz.sizeOf250
 v139:=Tryz.zeroValue250
 t160:=Tryz.underlying252
 a160:=Tryz.isAgg252
 z160:=Tryz.sizeOf252
 v160:=Tryz.zeroValue252
 t162:=Tryz.underlying231
 a162:=Tryz.isAgg231
 z162:=Tryz.sizeOf231
 v162:=Tryz.zeroValue231
 t164:=Tryz.underlying195
 a164:=Tryz.isAgg195
 z164:=Tryz.sizeOf195
 v164:=Tryz.zeroValue195
 t203:=Tryz.underlying229
 a203:=Tryz.isAgg229
 z203:=Tryz.sizeOf229
 v203:=Tryz.zeroValue229
 t206:=Tryz.underlying258
 a206:=Tryz.isAgg258
 z206:=Tryz.sizeOf258
 v206:=Tryz.zeroValue258
 t208:=Tryz.underlying260
 a208:=Tryz.isAgg260
 z208:=Tryz.sizeOf260
 v208:=Tryz.zeroValue260
 g3:=by kernel_rfl
 g4:=by kernel_rfl
 g13:=by kernel_rfl}
def Tryz.Builder_Extra_158 : Builder.Extra Tryz.prog Tryz.lays158_ren := {
 sizeBuilder:=by kernel_rfl
 liesBuilder:=by kernel_rfl
 t5:=Tryz.underlying5
 a5:=Tryz.isAgg5
 z5:=Tryz.sizeOf5
 v5:=Tryz.zeroValue5
 infoByte:=by kernel_rfl
 cellsByte:=by kernel_rfl
 sizeByte:=by kernel_rfl
 neB5:=by decide}
def Tryz.lays161_ren:Go.Shelf.Ren:=⟨λ|161=>225|231=>232|227=>233|233=>234|235=>235|228=>248|197=>178|151=>249|260=>201|152=>260|137=>264|119=>265|224=>241|225=>240|217=>239|266=>251|n=>n,λ|9=>9|4=>4|3=>3|5=>5|117=>265|116=>264|0=>0|124=>268|105=>204|21=>21|119=>247|46=>223|139=>250|138=>249|n=>n,λ|3=>4|4=>5|n=>n⟩
def Tryz.lays161 : Go.Proofs.Lays.n161 Tryz.prog Tryz.lays161_ren := {
 mixed:=by kernel_rfl
 f119:=Tryz.func265.trans (congrArg some (by kernel_rfl))
 f137:=Tryz.func264.trans (congrArg some (by kernel_rfl))
 f151:=Tryz.func249.trans (congrArg some (by kernel_rfl))
 f152:=Tryz.func260.trans (congrArg some (by kernel_rfl))
 f161:=Tryz.func225.trans (congrArg some (by kernel_rfl))
 f197:=Tryz.func178.trans (congrArg some (by kernel_rfl))
 f217:=Tryz.func239.trans (congrArg some (by kernel_rfl))
 f224:=Tryz.func241.trans (congrArg some (by kernel_rfl))
 f225:=Tryz.func240.trans (congrArg some (by kernel_rfl))
 f227:=Tryz.func233.trans (congrArg some (by kernel_rfl))
 f228:=Tryz.func248.trans (congrArg some (by kernel_rfl))
 f231:=Tryz.func232.trans (congrArg some (by kernel_rfl))
 f233:=Tryz.func234.trans (congrArg some (by kernel_rfl))
 f235:=Tryz.func235.trans (congrArg some (by kernel_rfl))
 f260:=Tryz.func201.trans (congrArg some (by kernel_rfl))
 f266:=Tryz.func251.trans (congrArg some (by kernel_rfl))
 t0:=Tryz.underlying0
 a0:=Tryz.isAgg0
 z0:=Tryz.sizeOf0
 v0:=Tryz.zeroValue0
 t3:=Tryz.underlying3
 a3:=Tryz.isAgg3
 z3:=Tryz.sizeOf3
 v3:=Tryz.zeroValue3
 t4:=Tryz.underlying4
 a4:=Tryz.isAgg4
 z4:=Tryz.sizeOf4
 v4:=Tryz.zeroValue4
 t5:=Tryz.underlying5
 a5:=Tryz.isAgg5
 z5:=Tryz.sizeOf5
 v5:=Tryz.zeroValue5
 t9:=Tryz.underlying9
 a9:=Tryz.isAgg9
 z9:=Tryz.sizeOf9
 v9:=Tryz.zeroValue9
 t21:=Tryz.underlying21
 a21:=Tryz.isAgg21
 z21:=Tryz.sizeOf21
 v21:=Tryz.zeroValue21
 t46:=Tryz.underlying223
 a46:=Tryz.isAgg223
 z46:=Tryz.sizeOf223
 v46:=Tryz.zeroValue223
 t105:=Tryz.underlying204
 a105:=Tryz.isAgg204
 z105:=Tryz.sizeOf204
 v105:=Tryz.zeroValue204
 t116:=Tryz.underlying264
 a116:=Tryz.isAgg264
 z116:=Tryz.sizeOf264
 t117:=Tryz.underlying265
 a117:=Tryz.isAgg265
 z117:=Tryz.sizeOf265
 v117:=Tryz.zeroValue265
 t119:=Tryz.underlying247
 a119:=Tryz.isAgg247
 z119:=Tryz.sizeOf247
 t124:=Tryz.underlying268
 a124:=Tryz.isAgg268
 z124:=Tryz.sizeOf268
 v124:=Tryz.zeroValue268
 t138:=Tryz.underlying249
 a138:=Tryz.isAgg249
 z138:=Tryz.sizeOf249
 v138:=Tryz.zeroValue249
 t139:=Tryz.underlying250
 a139:=Tryz.isAgg250
 z139:=Tryz.sizeOf250
 v139:=Tryz.zeroValue250
 g3:=by kernel_rfl
 g4:=by kernel_rfl}
open Go.RowKit in
def Tryz.strings_TrimLeft_one (s:ByteArray)(c:UInt8)(hc:c.toNat<128)(w:World):
 Calls Tryz.prog 225 #[.string s,.string ⟨#[c]⟩] w λe w'=>e= .returned (.string ⟨(Lib.trimLeftB s.data.toList c).toArray⟩)/\w'=w:=Any.strings_TrimLeft_one Tryz.lays161 s c hc w
def Tryz.lays162_ren:Go.Shelf.Ren:=⟨λ|162=>226|232=>236|227=>233|234=>237|236=>238|228=>248|271=>250|151=>249|120=>261|197=>178|152=>260|260=>201|137=>264|119=>265|224=>241|225=>240|217=>239|266=>251|n=>n,λ|9=>9|4=>4|3=>3|5=>5|117=>265|116=>264|0=>0|124=>268|21=>21|105=>204|46=>223|119=>247|139=>250|138=>249|n=>n,λ|3=>4|4=>5|n=>n⟩
def Tryz.lays162 : Go.Proofs.Lays.n162 Tryz.prog Tryz.lays162_ren := {
 mixed:=by kernel_rfl
 f119:=Tryz.func265.trans (congrArg some (by kernel_rfl))
 f120:=Tryz.func261.trans (congrArg some (by kernel_rfl))
 f137:=Tryz.func264.trans (congrArg some (by kernel_rfl))
 f151:=Tryz.func249.trans (congrArg some (by kernel_rfl))
 f152:=Tryz.func260.trans (congrArg some (by kernel_rfl))
 f162:=Tryz.func226.trans (congrArg some (by kernel_rfl))
 f197:=Tryz.func178.trans (congrArg some (by kernel_rfl))
 f217:=Tryz.func239.trans (congrArg some (by kernel_rfl))
 f224:=Tryz.func241.trans (congrArg some (by kernel_rfl))
 f225:=Tryz.func240.trans (congrArg some (by kernel_rfl))
 f227:=Tryz.func233.trans (congrArg some (by kernel_rfl))
 f228:=Tryz.func248.trans (congrArg some (by kernel_rfl))
 f232:=Tryz.func236.trans (congrArg some (by kernel_rfl))
 f234:=Tryz.func237.trans (congrArg some (by kernel_rfl))
 f236:=Tryz.func238.trans (congrArg some (by kernel_rfl))
 f260:=Tryz.func201.trans (congrArg some (by kernel_rfl))
 f266:=Tryz.func251.trans (congrArg some (by kernel_rfl))
 f271:=Tryz.func250.trans (congrArg some (by kernel_rfl))
 t0:=Tryz.underlying0
 a0:=Tryz.isAgg0
 z0:=Tryz.sizeOf0
 v0:=Tryz.zeroValue0
 t3:=Tryz.underlying3
 a3:=Tryz.isAgg3
 z3:=Tryz.sizeOf3
 v3:=Tryz.zeroValue3
 t4:=Tryz.underlying4
 a4:=Tryz.isAgg4
 z4:=Tryz.sizeOf4
 v4:=Tryz.zeroValue4
 t5:=Tryz.underlying5
 a5:=Tryz.isAgg5
 z5:=Tryz.sizeOf5
 v5:=Tryz.zeroValue5
 t9:=Tryz.underlying9
 a9:=Tryz.isAgg9
 z9:=Tryz.sizeOf9
 v9:=Tryz.zeroValue9
 t21:=Tryz.underlying21
 a21:=Tryz.isAgg21
 z21:=Tryz.sizeOf21
 v21:=Tryz.zeroValue21
 t46:=Tryz.underlying223
 a46:=Tryz.isAgg223
 z46:=Tryz.sizeOf223
 v46:=Tryz.zeroValue223
 t105:=Tryz.underlying204
 a105:=Tryz.isAgg204
 z105:=Tryz.sizeOf204
 v105:=Tryz.zeroValue204
 t116:=Tryz.underlying264
 a116:=Tryz.isAgg264
 z116:=Tryz.sizeOf264
 t117:=Tryz.underlying265
 a117:=Tryz.isAgg265
 z117:=Tryz.sizeOf265
 v117:=Tryz.zeroValue265
 t119:=Tryz.underlying247
 a119:=Tryz.isAgg247
 z119:=Tryz.sizeOf247
 t124:=Tryz.underlying268
 a124:=Tryz.isAgg268
 z124:=Tryz.sizeOf268
 v124:=Tryz.zeroValue268
 t138:=Tryz.underlying249
 a138:=Tryz.isAgg249
 z138:=Tryz.sizeOf249
 v138:=Tryz.zeroValue249
 t139:=Tryz.underlying250
 a139:=Tryz.isAgg250
 z139:=Tryz.sizeOf250
 v139:=Tryz.zeroValue250
 g3:=by kernel_rfl
 g4:=by kernel_rfl}
open Go.RowKit in
def Tryz.strings_TrimRight_one (s:ByteArray)(c:UInt8)(hc:c.toNat<128)(w:World)(hs:s.size<=9223372036854775807):
 Calls Tryz.prog 226 #[.string s,.string ⟨#[c]⟩] w λe w'=>e= .returned (.string ⟨(Lib.trimRightB s.data.toList c).toArray⟩)/\w'=w:=Any.strings_TrimRight_one Tryz.lays162 s c hc w hs
def Tryz.laysM171_ren:Go.Shelf.Ren:=⟨λ|171=>199|243=>218|246=>230|283=>243|284=>244|285=>245|286=>246|129=>254|317=>253|318=>255|319=>256|320=>257|337=>262|338=>263|n=>n,λ|3=>3|9=>9|2=>2|4=>4|171=>270|0=>0|53=>220|37=>128|5=>5|173=>273|212=>278|51=>251|20=>20|213=>279|46=>223|232=>283|233=>284|n=>n,λ|17=>6|18=>7|19=>8|n=>n⟩
def Tryz.laysM171 : Go.Proofs.LaysM.n171 Tryz.prog Tryz.laysM171_ren := {
 mixed:=by kernel_rfl
 f129:=Tryz.func254.trans (congrArg some (by kernel_rfl))
 f171:=Tryz.func199.trans (congrArg some (by kernel_rfl))
 f243:=Tryz.func218.trans (congrArg some (by kernel_rfl))
 f246:=Tryz.func230.trans (congrArg some (by kernel_rfl))
 f283:=Tryz.func243.trans (congrArg some (by kernel_rfl))
 f284:=Tryz.func244.trans (congrArg some (by kernel_rfl))
 f285:=Tryz.func245.trans (congrArg some (by kernel_rfl))
 f286:=Tryz.func246.trans (congrArg some (by kernel_rfl))
 f317:=Tryz.func253.trans (congrArg some (by kernel_rfl))
 f318:=Tryz.func255.trans (congrArg some (by kernel_rfl))
 f319:=Tryz.func256.trans (congrArg some (by kernel_rfl))
 f320:=Tryz.func257.trans (congrArg some (by kernel_rfl))
 f337:=Tryz.func262.trans (congrArg some (by kernel_rfl))
 f338:=Tryz.func263.trans (congrArg some (by kernel_rfl))
 t0:=Tryz.underlying0
 a0:=Tryz.isAgg0
 z0:=Tryz.sizeOf0
 v0:=Tryz.zeroValue0
 t2:=Tryz.underlying2
 a2:=Tryz.isAgg2
 z2:=Tryz.sizeOf2
 v2:=Tryz.zeroValue2
 t3:=Tryz.underlying3
 a3:=Tryz.isAgg3
 z3:=Tryz.sizeOf3
 v3:=Tryz.zeroValue3
 t4:=Tryz.underlying4
 a4:=Tryz.isAgg4
 z4:=Tryz.sizeOf4
 v4:=Tryz.zeroValue4
 t5:=Tryz.underlying5
 a5:=Tryz.isAgg5
 z5:=Tryz.sizeOf5
 v5:=Tryz.zeroValue5
 t9:=Tryz.underlying9
 a9:=Tryz.isAgg9
 z9:=Tryz.sizeOf9
 v9:=Tryz.zeroValue9
 t20:=Tryz.underlying20
 a20:=Tryz.isAgg20
 z20:=Tryz.sizeOf20
 v20:=Tryz.zeroValue20
 t37:=Tryz.underlying128
 a37:=Tryz.isAgg128
 z37:=Tryz.sizeOf128
 v37:=Tryz.zeroValue128
 t46:=Tryz.underlying223
 a46:=Tryz.isAgg223
 z46:=Tryz.sizeOf223
 v46:=Tryz.zeroValue223
 t51:=Tryz.underlying251
 a51:=Tryz.isAgg251
 z51:=Tryz.sizeOf251
 v51:=Tryz.zeroValue251
 t53:=Tryz.underlying220
 a53:=Tryz.isAgg220
 z53:=Tryz.sizeOf220
 v53:=Tryz.zeroValue220
 t171:=Tryz.underlying270
 a171:=Tryz.isAgg270
 z171:=Tryz.sizeOf270
 v171:=Tryz.zeroValue270
 t173:=Tryz.underlying273
 a173:=Tryz.isAgg273
 z173:=Tryz.sizeOf273
 v173:=Tryz.zeroValue273
 t212:=Tryz.underlying278
 a212:=Tryz.isAgg278
 z212:=Tryz.sizeOf278
 v212:=Tryz.zeroValue278
 t213:=Tryz.underlying279
 a213:=Tryz.isAgg279
 z213:=Tryz.sizeOf279
 t232:=Tryz.underlying283
 a232:=Tryz.isAgg283
 z232:=Tryz.sizeOf283
 v232:=Tryz.zeroValue283
 t233:=Tryz.underlying284
 a233:=Tryz.isAgg284
 z233:=Tryz.sizeOf284
 v233:=Tryz.zeroValue284
 g17:=by kernel_rfl
 g18:=by kernel_rfl
 g19:=by kernel_rfl
 i0:=by kernel_rfl
 i2:=by kernel_rfl
 i3:=by kernel_rfl
 i4:=by kernel_rfl
 i5:=by kernel_rfl
 i9:=by kernel_rfl
 i20:=by kernel_rfl
 i37:=by kernel_rfl
 i46:=by kernel_rfl
 i51:=by kernel_rfl
 i53:=by kernel_rfl
 i171:=by kernel_rfl
 i173:=by kernel_rfl
 i212:=by kernel_rfl
 i232:=by kernel_rfl
 i233:=by kernel_rfl
 m17:=by kernel_rfl
 m18:=by kernel_rfl
 m19:=by kernel_rfl}
open Go.RowKit Go.Sort Go.Lib in
def Tryz.strconv_Itoa (n:Int)(h0: -9223372036854775808<=n)(h1:n<=9223372036854775807)(w:World)(htab:Lib.TabIs Tryz.prog w "internal/strconv.uint64pow10" .u64 Lib.pow10Tab):
 Calls Tryz.prog 199 #[.int .i64 n] w λe w'=>e= .returned (.string ⟨(Lib.itoa n).toArray⟩)/\ ∃k os,w'=grow (w.drewN k) os:=Any.strconv_Itoa Tryz.laysM171 n h0 h1 w htab
def Tryz.laysC172_ren:Go.Shelf.Ren:=⟨λ|172=>133|244=>155|245=>156|247=>172|279=>173|280=>174|281=>175|282=>176|287=>196|316=>197|171=>199|205=>198|321=>216|322=>217|243=>218|246=>230|283=>243|284=>244|285=>245|286=>246|129=>254|317=>253|318=>255|319=>256|320=>257|337=>262|338=>263|n=>n,λ|9=>9|3=>3|75=>165|76=>166|4=>4|5=>5|167=>198|37=>128|0=>0|85=>199|2=>2|168=>201|53=>220|175=>221|46=>223|210=>225|127=>170|145=>246|143=>244|21=>21|171=>270|173=>273|212=>278|51=>251|20=>20|213=>279|232=>283|233=>284|80=>133|n=>n,λ|15=>0|16=>1|17=>6|18=>7|19=>8|n=>n⟩
def Tryz.laysC172 : Go.Proofs.LaysC.n172 Tryz.prog Tryz.laysC172_ren := {
 mixed:=by kernel_rfl
 f129:=Tryz.func254.trans (congrArg some (by kernel_rfl))
 f171:=Tryz.func199.trans (congrArg some (by kernel_rfl))
 f172:=Tryz.func133.trans (congrArg some (by kernel_rfl))
 f205:=Tryz.func198.trans (congrArg some (by kernel_rfl))
 f243:=Tryz.func218.trans (congrArg some (by kernel_rfl))
 f244:=Tryz.func155.trans (congrArg some (by kernel_rfl))
 f245:=Tryz.func156.trans (congrArg some (by kernel_rfl))
 f246:=Tryz.func230.trans (congrArg some (by kernel_rfl))
 f247:=Tryz.func172.trans (congrArg some (by kernel_rfl))
 f279:=Tryz.func173.trans (congrArg some (by kernel_rfl))
 f280:=Tryz.func174.trans (congrArg some (by kernel_rfl))
 f281:=Tryz.func175.trans (congrArg some (by kernel_rfl))
 f282:=Tryz.func176.trans (congrArg some (by kernel_rfl))
 f283:=Tryz.func243.trans (congrArg some (by kernel_rfl))
 f284:=Tryz.func244.trans (congrArg some (by kernel_rfl))
 f285:=Tryz.func245.trans (congrArg some (by kernel_rfl))
 f286:=Tryz.func246.trans (congrArg some (by kernel_rfl))
 f287:=Tryz.func196.trans (congrArg some (by kernel_rfl))
 f316:=Tryz.func197.trans (congrArg some (by kernel_rfl))
 f317:=Tryz.func253.trans (congrArg some (by kernel_rfl))
 f318:=Tryz.func255.trans (congrArg some (by kernel_rfl))
 f319:=Tryz.func256.trans (congrArg some (by kernel_rfl))
 f320:=Tryz.func257.trans (congrArg some (by kernel_rfl))
 f321:=Tryz.func216.trans (congrArg some (by kernel_rfl))
 f322:=Tryz.func217.trans (congrArg some (by kernel_rfl))
 f337:=Tryz.func262.trans (congrArg some (by kernel_rfl))
 f338:=Tryz.func263.trans (congrArg some (by kernel_rfl))
 t0:=Tryz.underlying0
 a0:=Tryz.isAgg0
 z0:=Tryz.sizeOf0
 v0:=Tryz.zeroValue0
 t2:=Tryz.underlying2
 a2:=Tryz.isAgg2
 z2:=Tryz.sizeOf2
 v2:=Tryz.zeroValue2
 t3:=Tryz.underlying3
 a3:=Tryz.isAgg3
 z3:=Tryz.sizeOf3
 v3:=Tryz.zeroValue3
 t4:=Tryz.underlying4
 a4:=Tryz.isAgg4
 z4:=Tryz.sizeOf4
 v4:=Tryz.zeroValue4
 t5:=Tryz.underlying5
 a5:=Tryz.isAgg5
 z5:=Tryz.sizeOf5
 v5:=Tryz.zeroValue5
 t9:=Tryz.underlying9
 a9:=Tryz.isAgg9
 z9:=Tryz.sizeOf9
 v9:=Tryz.zeroValue9
 t20:=Tryz.underlying20
 a20:=Tryz.isAgg20
 z20:=Tryz.sizeOf20
 v20:=Tryz.zeroValue20
 t21:=Tryz.underlying21
 a21:=Tryz.isAgg21
 z21:=Tryz.sizeOf21
 v21:=Tryz.zeroValue21
 t37:=Tryz.underlying128
 a37:=Tryz.isAgg128
 z37:=Tryz.sizeOf128
 v37:=Tryz.zeroValue128
 t46:=Tryz.underlying223
 a46:=Tryz.isAgg223
 z46:=Tryz.sizeOf223
 v46:=Tryz.zeroValue223
 t51:=Tryz.underlying251
 a51:=Tryz.isAgg251
 z51:=Tryz.sizeOf251
 v51:=Tryz.zeroValue251
 t53:=Tryz.underlying220
 a53:=Tryz.isAgg220
 z53:=Tryz.sizeOf220
 v53:=Tryz.zeroValue220
 t75:=Tryz.underlying165
 a75:=Tryz.isAgg165
 z75:=Tryz.sizeOf165
 v75:=Tryz.zeroValue165
 t76:=Tryz.underlying166
 a76:=Tryz.isAgg166
 z76:=Tryz.sizeOf166
 v76:=Tryz.zeroValue166
 t85:=Tryz.underlying199
 a85:=Tryz.isAgg199
 z85:=Tryz.sizeOf199
 v85:=Tryz.zeroValue199
 t127:=Tryz.underlying170
 a127:=Tryz.isAgg170
 z127:=Tryz.sizeOf170
 v127:=Tryz.zeroValue170
 t143:=Tryz.underlying244
 a143:=Tryz.isAgg244
 z143:=Tryz.sizeOf244
 v143:=Tryz.zeroValue244
 t145:=Tryz.underlying246
 a145:=Tryz.isAgg246
 z145:=Tryz.sizeOf246
 v145:=Tryz.zeroValue246
 t167:=Tryz.underlying198
 a167:=Tryz.isAgg198
 z167:=Tryz.sizeOf198
 v167:=Tryz.zeroValue198
 t168:=Tryz.underlying201
 a168:=Tryz.isAgg201
 z168:=Tryz.sizeOf201
 v168:=Tryz.zeroValue201
 t171:=Tryz.underlying270
 a171:=Tryz.isAgg270
 z171:=Tryz.sizeOf270
 v171:=Tryz.zeroValue270
 t173:=Tryz.underlying273
 a173:=Tryz.isAgg273
 z173:=Tryz.sizeOf273
 v173:=Tryz.zeroValue273
 t175:=Tryz.underlying221
 a175:=Tryz.isAgg221
 z175:=Tryz.sizeOf221
 v175:=Tryz.zeroValue221
 t210:=Tryz.underlying225
 a210:=Tryz.isAgg225
 z210:=Tryz.sizeOf225
 v210:=Tryz.zeroValue225
 t212:=Tryz.underlying278
 a212:=Tryz.isAgg278
 z212:=Tryz.sizeOf278
 v212:=Tryz.zeroValue278
 t213:=Tryz.underlying279
 a213:=Tryz.isAgg279
 z213:=Tryz.sizeOf279
 t232:=Tryz.underlying283
 a232:=Tryz.isAgg283
 z232:=Tryz.sizeOf283
 v232:=Tryz.zeroValue283
 t233:=Tryz.underlying284
 a233:=Tryz.isAgg284
 z233:=Tryz.sizeOf284
 v233:=Tryz.zeroValue284
 g15:=by kernel_rfl
 g16:=by kernel_rfl
 g17:=by kernel_rfl
 g18:=by kernel_rfl
 g19:=by kernel_rfl
 t80:=Tryz.underlying133
 a80:=Tryz.isAgg133
 z80:=Tryz.sizeOf133
 v80:=Tryz.zeroValue133
 i0:=by kernel_rfl
 i2:=by kernel_rfl
 i3:=by kernel_rfl
 i4:=by kernel_rfl
 i5:=by kernel_rfl
 i9:=by kernel_rfl
 i20:=by kernel_rfl
 i21:=by kernel_rfl
 i37:=by kernel_rfl
 i46:=by kernel_rfl
 i51:=by kernel_rfl
 i53:=by kernel_rfl
 i75:=by kernel_rfl
 i76:=by kernel_rfl
 i80:=by kernel_rfl
 i85:=by kernel_rfl
 i127:=by kernel_rfl
 i143:=by kernel_rfl
 i145:=by kernel_rfl
 i167:=by kernel_rfl
 i168:=by kernel_rfl
 i171:=by kernel_rfl
 i173:=by kernel_rfl
 i175:=by kernel_rfl
 i210:=by kernel_rfl
 i212:=by kernel_rfl
 i232:=by kernel_rfl
 i233:=by kernel_rfl
 m15:=by kernel_rfl
 m16:=by kernel_rfl
 m17:=by kernel_rfl
 m18:=by kernel_rfl
 m19:=by kernel_rfl
 c0:=by kernel_rfl
 c2:=by kernel_rfl
 c3:=by kernel_rfl
 c4:=by kernel_rfl
 c5:=by kernel_rfl
 c9:=by kernel_rfl
 c20:=by kernel_rfl
 c21:=by kernel_rfl
 c37:=by kernel_rfl
 c46:=by kernel_rfl
 c51:=by kernel_rfl
 c53:=by kernel_rfl
 c75:=by kernel_rfl
 c76:=by kernel_rfl
 c80:=by kernel_rfl
 c85:=by kernel_rfl
 c127:=by kernel_rfl
 c143:=by kernel_rfl
 c145:=by kernel_rfl
 c167:=by kernel_rfl
 c168:=by kernel_rfl
 c171:=by kernel_rfl
 c173:=by kernel_rfl
 c175:=by kernel_rfl
 c210:=by kernel_rfl
 c212:=by kernel_rfl
 c213:=by kernel_rfl
 c232:=by kernel_rfl
 c233:=by kernel_rfl}
open Go.RowKit in
def Tryz.strconv_Atoi_ok (s:ByteArray)(hmax:s.size<=9223372036854775806)(v:Int)(h:Lib.atoiAll s.data.toList= .ok v)(w:World):
 Calls Tryz.prog 133 #[.string s] w λe w'=>e= .returned (.tuple #[.int .i64 v,.nilIface])/\(w'=w\/ ∃t,w'=Lib.bytesWorld w 5 t):=Any.strconv_Atoi_ok Tryz.laysC172 s hmax v h w
open Go.RowKit in
def Tryz.strconv_Atoi_syntax_var (s:ByteArray)(hlim:s.size<=281474976710656)(h1: ∀v,Lib.atoiAll s.data.toList≠ .ok v)(h2:Lib.atoiAll s.data.toList≠ .range)(tp:TypeId)(p:Value)(w:World)(hvar:w.var? Tryz.prog "strconv.ErrSyntax" =some #[.iface tp p]):
 Calls Tryz.prog 133 #[.string s] w λe w'=> ∃N,e= .returned (.tuple #[.int .i64 0,.iface 201 (.pointer (some ⟨N,0,none⟩))])/\w.heap.size<=N/\w'.heap[N]? =some (.cells #[.string ⟨#[65,116,111,105]⟩,.string s,.iface tp p] 225 (0,0))/\Below w.heap.size w w':=Any.strconv_Atoi_syntax_var Tryz.laysC172 s hlim (by cases hx:Lib.atoiAll s.data.toList<;>first|rfl|exact absurd hx (h1 _)|exact absurd hx h2) tp p w hvar
open Go.RowKit in
def Tryz.strconv_Atoi_range_var (s:ByteArray)(hlim:s.size<=281474976710656)(h:Lib.atoiAll s.data.toList= .range)(tp:TypeId)(p:Value)(w:World)(hvar:w.var? Tryz.prog "strconv.ErrRange" =some #[.iface tp p]):
 Calls Tryz.prog 133 #[.string s] w λe w'=> ∃N,e= .returned (.tuple #[.int .i64 (Lib.atoiSat s.data.toList),.iface 201 (.pointer (some ⟨N,0,none⟩))])/\w.heap.size<=N/\w'.heap[N]? =some (.cells #[.string ⟨#[65,116,111,105]⟩,.string s,.iface tp p] 225 (0,0))/\Below w.heap.size w w':=Any.strconv_Atoi_range_var Tryz.laysC172 s hlim h tp p w hvar
def Tryz.lays143_ren:Go.Shelf.Ren:=⟨λ|143=>213|219=>228|217=>239|225=>240|224=>241|267=>242|266=>251|314=>252|n=>n,λ|9=>9|3=>3|4=>4|5=>5|46=>223|146=>276|51=>251|n=>n,λ|1=>3|n=>n⟩
def Tryz.lays143 : Go.Proofs.Lays.n143 Tryz.prog Tryz.lays143_ren := {
 mixed:=by kernel_rfl
 f143:=Tryz.func213.trans (congrArg some (by kernel_rfl))
 f217:=Tryz.func239.trans (congrArg some (by kernel_rfl))
 f219:=Tryz.func228.trans (congrArg some (by kernel_rfl))
 f224:=Tryz.func241.trans (congrArg some (by kernel_rfl))
 f225:=Tryz.func240.trans (congrArg some (by kernel_rfl))
 f266:=Tryz.func251.trans (congrArg some (by kernel_rfl))
 f267:=Tryz.func242.trans (congrArg some (by kernel_rfl))
 f314:=Tryz.func252.trans (congrArg some (by kernel_rfl))
 t3:=Tryz.underlying3
 a3:=Tryz.isAgg3
 z3:=Tryz.sizeOf3
 v3:=Tryz.zeroValue3
 t4:=Tryz.underlying4
 a4:=Tryz.isAgg4
 z4:=Tryz.sizeOf4
 v4:=Tryz.zeroValue4
 t5:=Tryz.underlying5
 a5:=Tryz.isAgg5
 z5:=Tryz.sizeOf5
 v5:=Tryz.zeroValue5
 t9:=Tryz.underlying9
 a9:=Tryz.isAgg9
 z9:=Tryz.sizeOf9
 v9:=Tryz.zeroValue9
 t46:=Tryz.underlying223
 a46:=Tryz.isAgg223
 z46:=Tryz.sizeOf223
 v46:=Tryz.zeroValue223
 t51:=Tryz.underlying251
 a51:=Tryz.isAgg251
 z51:=Tryz.sizeOf251
 v51:=Tryz.zeroValue251
 t146:=Tryz.underlying276
 a146:=Tryz.isAgg276
 z146:=Tryz.sizeOf276
 v146:=Tryz.zeroValue276
 g1:=by kernel_rfl}
open Go.RowKit Go.Lib in
def Tryz.strings_Index (s sub:ByteArray)(m:Int)(w:World)(hs:s.size<4294967281)(hm:w.cell? ⟨3,0,none⟩=some (.int .i64 m)):
 Calls Tryz.prog 213 #[.string s,.string sub] w λe w'=>e= .returned (.int .i64 (Lib.index s.data.toList sub.data.toList))/\w'=w:=Any.strings_Index Tryz.lays143 s sub m w hs hm
def Tryz.laysGw17_ren:Go.Shelf.Ren:=⟨λ|17=>131|15=>154|20=>171|n=>n,λ|9=>9|23=>172|4=>4|3=>3|0=>0|21=>21|n=>n,λ|n=>n⟩
def Tryz.laysGw17 : Go.Proofs.LaysGw.n17 Tryz.prog Tryz.laysGw17_ren := {
 mixed:=by kernel_rfl
 f15:=Tryz.func154.trans (congrArg some (by kernel_rfl))
 f17:=Tryz.func131.trans (congrArg some (by kernel_rfl))
 f20:=Tryz.func171.trans (congrArg some (by kernel_rfl))
 t0:=Tryz.underlying0
 a0:=Tryz.isAgg0
 z0:=Tryz.sizeOf0
 v0:=Tryz.zeroValue0
 i0:=by kernel_rfl
 t3:=Tryz.underlying3
 a3:=Tryz.isAgg3
 z3:=Tryz.sizeOf3
 v3:=Tryz.zeroValue3
 i3:=by kernel_rfl
 t4:=Tryz.underlying4
 a4:=Tryz.isAgg4
 z4:=Tryz.sizeOf4
 v4:=Tryz.zeroValue4
 i4:=by kernel_rfl
 t9:=Tryz.underlying9
 a9:=Tryz.isAgg9
 z9:=Tryz.sizeOf9
 v9:=Tryz.zeroValue9
 i9:=by kernel_rfl
 t21:=Tryz.underlying21
 a21:=Tryz.isAgg21
 z21:=Tryz.sizeOf21
 v21:=Tryz.zeroValue21
 i21:=by kernel_rfl
 t23:=Tryz.underlying172
 a23:=Tryz.isAgg172
 z23:=Tryz.sizeOf172
 v23:=Tryz.zeroValue172
 i23:=by kernel_rfl}
def Tryz.lays99_ren:Go.Shelf.Ren:=⟨λ|99=>214|206=>229|n=>n,λ|9=>9|4=>4|3=>3|n=>n,λ|n=>n⟩
def Tryz.lays99 : Go.Proofs.Lays.n99 Tryz.prog Tryz.lays99_ren := {
 mixed:=by kernel_rfl
 f99:=Tryz.func214.trans (congrArg some (by kernel_rfl))
 f206:=Tryz.func229.trans (congrArg some (by kernel_rfl))
 t3:=Tryz.underlying3
 a3:=Tryz.isAgg3
 z3:=Tryz.sizeOf3
 v3:=Tryz.zeroValue3
 t4:=Tryz.underlying4
 a4:=Tryz.isAgg4
 z4:=Tryz.sizeOf4
 v4:=Tryz.zeroValue4
 t9:=Tryz.underlying9
 a9:=Tryz.isAgg9
 z9:=Tryz.sizeOf9
 v9:=Tryz.zeroValue9}
open Go.RowKit Go.Lib in
def Tryz.strings_HasPrefix (s p:ByteArray)(w:World):
 Calls Tryz.prog 214 #[.string s,.string p] w λe w'=>e= .returned (.bool (Lib.hasPrefix s.data.toList p.data.toList))/\w'=w:=Any.strings_HasPrefix Tryz.lays99 s p w
def Tryz.lays101_ren:Go.Shelf.Ren:=⟨λ|101=>211|208=>227|206=>229|n=>n,λ|9=>9|4=>4|3=>3|n=>n,λ|n=>n⟩
def Tryz.lays101 : Go.Proofs.Lays.n101 Tryz.prog Tryz.lays101_ren := {
 mixed:=by kernel_rfl
 f101:=Tryz.func211.trans (congrArg some (by kernel_rfl))
 f206:=Tryz.func229.trans (congrArg some (by kernel_rfl))
 f208:=Tryz.func227.trans (congrArg some (by kernel_rfl))
 t3:=Tryz.underlying3
 a3:=Tryz.isAgg3
 z3:=Tryz.sizeOf3
 v3:=Tryz.zeroValue3
 t4:=Tryz.underlying4
 a4:=Tryz.isAgg4
 z4:=Tryz.sizeOf4
 v4:=Tryz.zeroValue4
 t9:=Tryz.underlying9
 a9:=Tryz.isAgg9
 z9:=Tryz.sizeOf9
 v9:=Tryz.zeroValue9}
open Go.RowKit Go.Lib in
def Tryz.strings_TrimPrefix (s p:ByteArray)(w:World):
 Calls Tryz.prog 211 #[.string s,.string p] w λe w'=>e= .returned (.string ⟨(Lib.trimPrefix s.data.toList p.data.toList).toArray⟩)/\w'=w:=Any.strings_TrimPrefix Tryz.lays101 s p w
def Tryz.lays155_ren:Go.Shelf.Ren:=⟨λ|155=>224|154=>231|138=>247|165=>157|143=>213|166=>129|197=>178|169=>89|195=>258|218=>259|240=>153|241=>177|219=>228|260=>201|276=>170|277=>200|217=>239|225=>240|224=>241|267=>242|266=>251|314=>252|n=>n,λ|9=>9|3=>3|4=>4|72=>130|0=>0|76=>166|105=>204|21=>21|5=>5|70=>127|20=>20|37=>128|75=>165|127=>170|164=>195|46=>223|119=>247|139=>250|138=>249|146=>276|51=>251|80=>133|n=>n,λ|1=>3|3=>4|4=>5|n=>n⟩
def Tryz.lays155 : Go.Proofs.Lays.n155 Tryz.prog Tryz.lays155_ren := {
 mixed:=by kernel_rfl
 f138:=Tryz.func247.trans (congrArg some (by kernel_rfl))
 f143:=Tryz.func213.trans (congrArg some (by kernel_rfl))
 f154:=Tryz.func231.trans (congrArg some (by kernel_rfl))
 f155:=Tryz.func224.trans (congrArg some (by kernel_rfl))
 f165:=Tryz.func157.trans (congrArg some (by kernel_rfl))
 f166:=Tryz.func129.trans (congrArg some (by kernel_rfl))
 f169:=Tryz.func89.trans (congrArg some (by kernel_rfl))
 f195:=Tryz.func258.trans (congrArg some (by kernel_rfl))
 f197:=Tryz.func178.trans (congrArg some (by kernel_rfl))
 f217:=Tryz.func239.trans (congrArg some (by kernel_rfl))
 f218:=Tryz.func259.trans (congrArg some (by kernel_rfl))
 f219:=Tryz.func228.trans (congrArg some (by kernel_rfl))
 f224:=Tryz.func241.trans (congrArg some (by kernel_rfl))
 f225:=Tryz.func240.trans (congrArg some (by kernel_rfl))
 f240:=Tryz.func153.trans (congrArg some (by kernel_rfl))
 f241:=Tryz.func177.trans (congrArg some (by kernel_rfl))
 f260:=Tryz.func201.trans (congrArg some (by kernel_rfl))
 f266:=Tryz.func251.trans (congrArg some (by kernel_rfl))
 f267:=Tryz.func242.trans (congrArg some (by kernel_rfl))
 f276:=Tryz.func170.trans (congrArg some (by kernel_rfl))
 f277:=Tryz.func200.trans (congrArg some (by kernel_rfl))
 f314:=Tryz.func252.trans (congrArg some (by kernel_rfl))
 t0:=Tryz.underlying0
 a0:=Tryz.isAgg0
 z0:=Tryz.sizeOf0
 v0:=Tryz.zeroValue0
 t3:=Tryz.underlying3
 a3:=Tryz.isAgg3
 z3:=Tryz.sizeOf3
 v3:=Tryz.zeroValue3
 t4:=Tryz.underlying4
 a4:=Tryz.isAgg4
 z4:=Tryz.sizeOf4
 v4:=Tryz.zeroValue4
 t5:=Tryz.underlying5
 a5:=Tryz.isAgg5
 z5:=Tryz.sizeOf5
 v5:=Tryz.zeroValue5
 t9:=Tryz.underlying9
 a9:=Tryz.isAgg9
 z9:=Tryz.sizeOf9
 v9:=Tryz.zeroValue9
 t20:=Tryz.underlying20
 a20:=Tryz.isAgg20
 z20:=Tryz.sizeOf20
 v20:=Tryz.zeroValue20
 t21:=Tryz.underlying21
 a21:=Tryz.isAgg21
 z21:=Tryz.sizeOf21
 v21:=Tryz.zeroValue21
 t37:=Tryz.underlying128
 a37:=Tryz.isAgg128
 z37:=Tryz.sizeOf128
 v37:=Tryz.zeroValue128
 t46:=Tryz.underlying223
 a46:=Tryz.isAgg223
 z46:=Tryz.sizeOf223
 v46:=Tryz.zeroValue223
 t51:=Tryz.underlying251
 a51:=Tryz.isAgg251
 z51:=Tryz.sizeOf251
 v51:=Tryz.zeroValue251
 t70:=Tryz.underlying127
 a70:=Tryz.isAgg127
 z70:=Tryz.sizeOf127
 v70:=Tryz.zeroValue127
 t72:=Tryz.underlying130
 a72:=Tryz.isAgg130
 z72:=Tryz.sizeOf130
 v72:=Tryz.zeroValue130
 t75:=Tryz.underlying165
 a75:=Tryz.isAgg165
 z75:=Tryz.sizeOf165
 v75:=Tryz.zeroValue165
 t76:=Tryz.underlying166
 a76:=Tryz.isAgg166
 z76:=Tryz.sizeOf166
 v76:=Tryz.zeroValue166
 t105:=Tryz.underlying204
 a105:=Tryz.isAgg204
 z105:=Tryz.sizeOf204
 v105:=Tryz.zeroValue204
 t119:=Tryz.underlying247
 a119:=Tryz.isAgg247
 z119:=Tryz.sizeOf247
 t127:=Tryz.underlying170
 a127:=Tryz.isAgg170
 z127:=Tryz.sizeOf170
 v127:=Tryz.zeroValue170
 t138:=Tryz.underlying249
 a138:=Tryz.isAgg249
 z138:=Tryz.sizeOf249
 v138:=Tryz.zeroValue249
 t139:=Tryz.underlying250
 a139:=Tryz.isAgg250
 z139:=Tryz.sizeOf250
 v139:=Tryz.zeroValue250
 t146:=Tryz.underlying276
 a146:=Tryz.isAgg276
 z146:=Tryz.sizeOf276
 v146:=Tryz.zeroValue276
 t164:=Tryz.underlying195
 a164:=Tryz.isAgg195
 z164:=Tryz.sizeOf195
 v164:=Tryz.zeroValue195
 g1:=by kernel_rfl
 g3:=by kernel_rfl
 g4:=by kernel_rfl}
def Tryz.Builder_Extra_155 : Builder.Extra Tryz.prog Tryz.lays155_ren := {
 sizeBuilder:=by kernel_rfl
 liesBuilder:=by kernel_rfl
 t5:=Tryz.underlying5
 a5:=Tryz.isAgg5
 z5:=Tryz.sizeOf5
 v5:=Tryz.zeroValue5
 infoByte:=by kernel_rfl
 cellsByte:=by kernel_rfl
 sizeByte:=by kernel_rfl
 neB5:=by decide}
open Go.RowKit Go.Lib in
def Tryz.strings_ReplaceAll (s old new:ByteArray)(m:Int)(w:World)(hs:s.size<4294967281)(hm:w.cell? ⟨3,0,none⟩=some (.int .i64 m))(h1:1<=old.size)(hlen:s.size+Lib.countB s old*new.size<=140737488355328):
 Calls Tryz.prog 224 #[.string s,.string old,.string new] w λe w'=>
  e= .returned (.string ⟨(Lib.replaceAll s.data.toList old.data.toList new.data.toList).toArray⟩)/\Below w.heap.size w w':=Any.strings_ReplaceAll Tryz.lays155 Tryz.Builder_Extra_155 s old new m w hs hm h1 hlen
def Tryz.lays274_ren:Go.Shelf.Ren:=⟨λ|274=>220|n=>n,λ|21=>21|162=>231|160=>252|3=>3|4=>4|46=>223|0=>0|208=>260|51=>251|206=>258|n=>n,λ|n=>n⟩
def Tryz.lays274 : Go.Proofs.Lays.n274 Tryz.prog Tryz.lays274_ren := {
 mixed:=by kernel_rfl
 f274:=Tryz.func220.trans (congrArg some (by kernel_rfl))
 t0:=Tryz.underlying0
 a0:=Tryz.isAgg0
 z0:=Tryz.sizeOf0
 v0:=Tryz.zeroValue0
 t3:=Tryz.underlying3
 a3:=Tryz.isAgg3
 z3:=Tryz.sizeOf3
 v3:=Tryz.zeroValue3
 t4:=Tryz.underlying4
 a4:=Tryz.isAgg4
 z4:=Tryz.sizeOf4
 v4:=Tryz.zeroValue4
 t21:=Tryz.underlying21
 a21:=Tryz.isAgg21
 z21:=Tryz.sizeOf21
 v21:=Tryz.zeroValue21
 t46:=Tryz.underlying223
 a46:=Tryz.isAgg223
 z46:=Tryz.sizeOf223
 v46:=Tryz.zeroValue223
 t51:=Tryz.underlying251
 a51:=Tryz.isAgg251
 z51:=Tryz.sizeOf251
 v51:=Tryz.zeroValue251
 t160:=Tryz.underlying252
 a160:=Tryz.isAgg252
 z160:=Tryz.sizeOf252
 v160:=Tryz.zeroValue252
 t162:=Tryz.underlying231
 a162:=Tryz.isAgg231
 z162:=Tryz.sizeOf231
 v162:=Tryz.zeroValue231
 t208:=Tryz.underlying260
 a208:=Tryz.isAgg260
 z208:=Tryz.sizeOf260
 v208:=Tryz.zeroValue260}
open Go.RowKit Go.Lib in
def Tryz.strings_ToUpper_any (s:ByteArray)(w:World)(hs:s.size<35184372088832)(hV:CaseVar 2 caseA w)(hT:Lib.Utf8Tabs 4 5 w):
 Calls Tryz.prog 136 #[.string s] w λe w'=>e= .returned (.string ⟨(Lib.toUpperD s.data.toList).toArray⟩)/\Below w.heap.size w w':=Any.strings_ToUpper_any Tryz.lays158 Tryz.Builder_Extra_158 s w hs hV hT
open Go.RowKit Go.Lib in
def Tryz.strings_ContainsFunc_grows (g:Nat)(lb:Array Value)(eg: ∀args w,(callFunc g args).run Tryz.prog w= .ok (.enter g args) w)(p:Nat->Bool)(s:ByteArray)(w:World)(hp:PredGrows Tryz.prog g lb p w):
 Calls Tryz.prog 131 #[.string s,.func (.func g) #[] lb] w λe w'=>e= .returned (.bool (decide (0<=Lib.idxFunc p true s)))/\Below w.heap.size w w':=Any.strings_ContainsFunc_grows Tryz.laysGw17 g lb eg p s w hp
end Go.Proofs
set_option maxRecDepth 100000
namespace Go.Abs
open Go Go.Proofs Go.RowKit
structure Base (W0:World):Prop where
 max: ∃m:Int,W0.cell? ⟨3,0,none⟩=some (.int .i64 m)
 case:Lib.CaseVar 2 Lib.caseA W0
 utf8:Lib.Utf8Tabs 4 5 W0
 pow:Lib.TabIs Tryz.prog W0 "internal/strconv.uint64pow10" .u64 Lib.pow10Tab
 esyn: ∃tp p,World.var? Tryz.prog W0 "strconv.ErrSyntax" =some #[.iface tp p]
 erng: ∃tp p,World.var? Tryz.prog W0 "strconv.ErrRange" =some #[.iface tp p]
section
variable {W0 w:World}
def cell_kept (h: ∀b,b<W0.heap.size->w.heap[b]? =W0.heap[b]?){p:Addr}{v:Value}(hc:W0.cell? p=some v):w.cell? p=some v:=by have hp:=Fk hc;rw[<-hc];unfold World.cell?;rw[h _ hp]
def C1 (h: ∀b,b<W0.heap.size->w.heap[b]? =W0.heap[b]?){n:String}{v:Array Value}(hv:World.var? Tryz.prog W0 n=some v):World.var? Tryz.prog w n=some v:=by
 rw[<-hv];unfold World.var? at hv |-;cases hg:Tryz.prog.globalNamed n with
 |none=>rfl|some g=>
  rw[hg]at hv;simp only[Option.bind_some]at hv |-;have hlt:g<W0.heap.size:=by
   rcases jy g W0.heap.size with h1|h1
   ·exact h1
   ·rw[Pr h1]at hv;simp at hv
  rw[h g hlt]
def Base.kept (B:Base W0)(h: ∀b,b<W0.heap.size->w.heap[b]? =W0.heap[b]?):Base w:=by obtain⟨m,hm⟩:=B.max;obtain⟨R,oR,cap,h1,h2⟩:=B.case;obtain⟨t1,p1,e1⟩:=B.esyn;obtain⟨t2,p2,e2⟩:=B.erng;refine⟨⟨m,cell_kept h hm⟩,⟨R,oR,cap,cell_kept h h1,λi hi=> ?_⟩,⟨λc hc=>cell_kept h (B.utf8.1 c hc),λi hi=>⟨cell_kept h (B.utf8.2 i hi).1,cell_kept h (B.utf8.2 i hi).2⟩⟩,C1 h B.pow,⟨t1,p1,C1 h e1⟩,⟨t2,p2,C1 h e2⟩⟩;obtain⟨a,b,c,d,e⟩:=h2 i hi;exact⟨cell_kept h a,cell_kept h b,cell_kept h c,cell_kept h d,cell_kept h e⟩
def jN {x:LV}{s:List UInt8}(h:cf x=some s):x=LV.str s:=by
 unfold cf at h;split at h
 ·rename_i b;injection h with h;subst h;rfl
 ·cases h
def wQ {k:IntKind}{x:LV}{n:Int}(h:bI k x=some n):x=LV.int k n:=by
 unfold bI at h;split at h
 ·rename_i k' m;by_cases hk:k=k'
  ·subst hk;simp at h;subst h;rfl
  ·simp[hk]at h
 ·cases h
def cK {α β:Type}{x:Option α}{f:α->Option β}{r:β}(h:opt x f=some r): ∃a,x=some a/\f a=some r:=by
 cases x with|none=>cases h|some a=>exact⟨a,rfl,h⟩
def eI {α:Type}{l:List α}{q:α×List α}(h:bC l=some q):l=q.1::q.2:=by
 cases l with
 |nil=>cases h|cons a r=>injection h with h;subst h;rfl
def iq {α:Type}{l:List α}{u:Unit}(h:bS l=some u):l=[]:=by
 cases l with|nil=>rfl|cons a r=>cases h
def iu {β:Type}{b:Bool}{k:Option β}{r:β}(h:bB b k=some r):b=true/\k=some r:=by
 cases b with|false=>cases h|true=>exact⟨rfl,h⟩
def Hc {g:List UInt8->Option LV}{args:List LV}{μ:Mu}{out:Out}(h:AI g args μ=some out): ∃s v,args=[LV.str s]/\g s=some v/\out= .ret v μ:=by unfold AI at h;obtain⟨q,hq,h⟩:=cK h;obtain⟨u,hu,h⟩:=cK h;obtain⟨s,hs,h⟩:=cK h;obtain⟨v,hv,h⟩:=cK h;injection h with h;refine⟨s,v,?_,hv,h.symm⟩;rw[eI hq,iq hu,jN hs]
def qP {g:List UInt8->List UInt8->Option LV}{args:List LV}{μ:Mu}{out:Out}(h:nB g args μ=some out): ∃s t v,args=[LV.str s,LV.str t]/\g s t=some v/\out= .ret v μ:=by unfold nB at h;obtain⟨q,hq,h⟩:=cK h;obtain⟨r,hr,h⟩:=cK h;obtain⟨u,hu,h⟩:=cK h;obtain⟨s,hs,h⟩:=cK h;obtain⟨t,ht,h⟩:=cK h;obtain⟨v,hv,h⟩:=cK h;injection h with h;refine⟨s,t,v,?_,hv,h.symm⟩;rw[eI hq,eI hr,iq hu,jN hs,jN ht]
def UT {g:List UInt8->List UInt8->List UInt8->Option LV}{args:List LV}{μ:Mu}{out:Out}(h:HZ g args μ=some out): ∃s t z v,args=[LV.str s,LV.str t,LV.str z]/\g s t z=some v/\out= .ret v μ:=by unfold HZ at h;obtain⟨q,hq,h⟩:=cK h;obtain⟨r,hr,h⟩:=cK h;obtain⟨x,hx,h⟩:=cK h;obtain⟨u,hu,h⟩:=cK h;obtain⟨s,hs,h⟩:=cK h;obtain⟨t,ht,h⟩:=cK h;obtain⟨z,hz,h⟩:=cK h;obtain⟨v,hv,h⟩:=cK h;injection h with h;refine⟨s,t,z,v,?_,hv,h.symm⟩;rw[eI hq,eI hr,eI hx,iq hu,jN hs,jN ht,jN hz]
def gm {f:FuncId}{fn:Func}(h:Tryz.prog.funcs[f]? =some fn)(h2:fn.body.isSome=true)(h3:(fn.name == "runtime.NumGoroutine")=false): ∃fn c,E.P.funcs[f]? =some fn/\fn.body=some c/\(fn.name == "runtime.NumGoroutine")=false:=by obtain⟨c,hc⟩:=F3.1 h2;exact⟨fn,c,h,hc,h3⟩
variable {μ:Mu}
def kT {f:FuncId}{vals:List Value}{r:Value}(hf: ∃fn c,E.P.funcs[f]? =some fn/\fn.body=some c/\(fn.name == "runtime.NumGoroutine")=false)(B:Base W0)
 (hc: ∀w:World,Base w->Calls Tryz.prog f vals.toArray w λe w'=>e= .returned r/\Below w.heap.size w w'):
 fk E.P W0 f (vals.map λv=>LV.cv (.v v)) μ (.ret (.cv (.v r)) μ):=
 QC hf λw h1 h2=>hc w (B.kept h2)
def Gq {G:Gh}{L:Nat}: ∀(rs:List Value),dV G w L 0 (rs.map λv=>LV.cv (.v v)) rs
 |[]=>rfl|r::rs=>by exact⟨r,rs,rfl,rfl,rfl,Gq rs⟩
def Ua {f:FuncId}{vals rs:List Value}(hf: ∃fn c,E.P.funcs[f]? =some fn/\fn.body=some c/\(fn.name == "runtime.NumGoroutine")=false)(B:Base W0)
 (hc: ∀w:World,Base w->Calls Tryz.prog f vals.toArray w λe w'=>e= .returned (.tuple rs.toArray)/\Below w.heap.size w w'):
 fk E.P W0 f (vals.map λv=>LV.cv (.v v)) μ (.ret (.ltup (rs.map λv=>LV.cv (.v v))) μ):=by
 refine mU hf λG w cargs hs hv h1 h2=> ?_;rw[Ap hs hv];refine(hc w (B.kept h2)).mono λe w' ⟨h3,h4⟩=>⟨_,h3,h4,⟨rs.toArray,rfl,Gq rs⟩,λb h=>by simp[bZ]at h⟩
def pc {w':World}(h:w'=w):Below w.heap.size w w':=by subst h;exact Below.refl _ _
def LD (n:Nat):Below w.heap.size w (w.drewN n):=⟨rfl,rfl,rfl,cw _,λ_ _=>rfl⟩
def m3 {s:List UInt8}(h:iX s=true):(⟨⟨s⟩⟩:ByteArray).size<=1000000:=by unfold iX at h;exact nt h
def Rj (B:Base W0){args:List LV}{out:Out}(h:xf args μ=some out):fk E.P W0 136 args μ out:=by obtain⟨s,v,rfl,hg,rfl⟩:=Hc h;obtain⟨h1,h2⟩:=iu hg;injection h2 with h2;subst h2;have hl:=m3 h1;exact kT (vals:=[.string ⟨⟨s⟩⟩]) (gm Tryz.func136 rfl bx) B λw b=>Tryz.strings_ToUpper_any ⟨⟨s⟩⟩ w bu b.case b.utf8
def KH (B:Base W0){args:List LV}{out:Out}(h:rL args μ=some out):fk E.P W0 214 args μ out:=by obtain⟨s,t,v,rfl,hg,rfl⟩:=qP h;injection hg with hg;subst hg;exact kT (vals:=[.string ⟨⟨s⟩⟩,.string ⟨⟨t⟩⟩]) (gm Tryz.func214 rfl bx) B λw b=>(Tryz.strings_HasPrefix ⟨⟨s⟩⟩ ⟨⟨t⟩⟩ w).mono λe w' ⟨h1,h2⟩=>⟨h1,pc h2⟩
def HD (B:Base W0){args:List LV}{out:Out}(h:qi args μ=some out):fk E.P W0 211 args μ out:=by obtain⟨s,t,v,rfl,hg,rfl⟩:=qP h;injection hg with hg;subst hg;exact kT (vals:=[.string ⟨⟨s⟩⟩,.string ⟨⟨t⟩⟩]) (gm Tryz.func211 rfl bx) B λw b=>(Tryz.strings_TrimPrefix ⟨⟨s⟩⟩ ⟨⟨t⟩⟩ w).mono λe w' ⟨h1,h2⟩=>⟨h1,pc h2⟩
def KJ {t:List UInt8}{c:UInt8}(h:FK t=some c):t=[c]:=by
 unfold FK at h;split at h
 ·injection h with h;subst h;rfl
 ·cases h
def Nc (B:Base W0){args:List LV}{out:Out}(h:ub args μ=some out):fk E.P W0 225 args μ out:=by obtain⟨s,t,v,rfl,hg,rfl⟩:=qP h;obtain⟨c,hc,hg⟩:=cK hg;obtain⟨h1,h2⟩:=iu hg;injection h2 with h2;subst h2;have:=KJ hc;subst this;exact kT (vals:=[.string ⟨⟨s⟩⟩,.string ⟨⟨[c]⟩⟩]) (gm Tryz.func225 rfl bx) B λw b=>(Tryz.strings_TrimLeft_one ⟨⟨s⟩⟩ c (nt h1) w).mono λe w' ⟨h1,h2⟩=>⟨h1,pc h2⟩
def KI (B:Base W0){args:List LV}{out:Out}(h:rM args μ=some out):fk E.P W0 226 args μ out:=by obtain⟨s,t,v,rfl,hg,rfl⟩:=qP h;obtain⟨c,hc,hg⟩:=cK hg;obtain⟨h1,h2⟩:=iu hg;injection h2 with h2;subst h2;have:=KJ hc;subst this;rw[cM]at h1;have hl:=m3 h1.2;exact kT (vals:=[.string ⟨⟨s⟩⟩,.string ⟨⟨[c]⟩⟩]) (gm Tryz.func226 rfl bx) B λw b=>(Tryz.strings_TrimRight_one ⟨⟨s⟩⟩ c (nt h1.1) w bu).mono λe w' ⟨h1,h2⟩=>⟨h1,pc h2⟩
def W9 (B:Base W0){args:List LV}{out:Out}(h:Ek args μ=some out):fk E.P W0 213 args μ out:=by obtain⟨s,t,v,rfl,hg,rfl⟩:=qP h;obtain⟨h1,h2⟩:=iu hg;injection h2 with h2;subst h2;have hl:=m3 h1;refine kT (vals:=[.string ⟨⟨s⟩⟩,.string ⟨⟨t⟩⟩]) (gm Tryz.func213 rfl bx) B λw b=> ?_;obtain⟨m,hm⟩:=b.max;exact(Tryz.strings_Index ⟨⟨s⟩⟩ ⟨⟨t⟩⟩ m w bu hm).mono λe w' ⟨h1,h2⟩=>⟨h1,pc h2⟩
def ZE (B:Base W0){args:List LV}{out:Out}(h:El args μ=some out):fk E.P W0 199 args μ out:=by
 unfold El at h;obtain⟨q,hq,h⟩:=cK h;obtain⟨u,hu,h⟩:=cK h;obtain⟨n,hn,h⟩:=cK h;obtain⟨h1,h2⟩:=iu h;injection h2 with h2;subst h2;have hx:q.1=bv n:=by exact wQ hn
 rw[eI hq,iq hu,hx];rw[cM]at h1;refine kT (vals:=[.int .i64 n]) (gm Tryz.func199 rfl bx) B λw b=> ?_;refine(Tryz.strconv_Itoa n (nt h1.1) (nt h1.2) w b.pow).mono λe w' ⟨h3,k,os,h4⟩=>⟨h3,?_⟩;subst h4;have h5:Below w.heap.size w (w.drewN k):=LD k;refine Below.trans h5 ⟨rfl,rfl,rfl,by simp[«Sort».grow],λj hj=> ?_⟩;have:j<(w.drewN k).heap.size:=tq hj h5.size;simp only[«Sort».grow];rw[ES this]
def HC (B:Base W0){args:List LV}{out:Out}(h:qh args μ=some out):fk E.P W0 224 args μ out:=by obtain⟨s,t,z,v,rfl,hg,rfl⟩:=UT h;obtain⟨h1,h2⟩:=iu hg;injection h2 with h2;subst h2;simp only[cM]at h1;obtain⟨⟨a1,a2⟩,a3⟩:=h1;have hl:=m3 a1;have hl2:=m3 a2;have h1':1<=(⟨⟨t⟩⟩:ByteArray).size:=nt a3;refine kT (vals:=[.string ⟨⟨s⟩⟩,.string ⟨⟨t⟩⟩,.string ⟨⟨z⟩⟩]) (gm Tryz.func224 rfl bx) B λw b=> ?_;obtain⟨m,hm⟩:=b.max;have hc:=Lib.countB_le ⟨⟨t⟩⟩ h1' _ ⟨⟨s⟩⟩ (cw _);refine Tryz.strings_ReplaceAll ⟨⟨s⟩⟩ ⟨⟨t⟩⟩ ⟨⟨z⟩⟩ m w bu hm h1' ?_;have:Lib.countB ⟨⟨s⟩⟩ ⟨⟨t⟩⟩*(⟨⟨z⟩⟩:ByteArray).size<=1000000*1000000:=Nat.mul_le_mul bu hl2;omega
def OU {G:Gh}{L:Nat}{n:Int}{v:Value}:LVR G w L 0 (.ltup [bv n,.cv (.iface 201 .undef)]) (.tuple #[.int .i64 n,.iface 201 v]):=by exact⟨_,rfl,_,_,rfl,rfl,rfl,_,_,rfl,rfl,⟨v,rfl,trivial⟩,rfl⟩
def ZD (B:Base W0){args:List LV}{out:Out}(h:HY 201 args μ=some out):fk E.P W0 133 args μ out:=by
 obtain⟨s,v,rfl,hg,rfl⟩:=Hc h;obtain⟨h1,h2⟩:=iu hg;injection h2 with h2;subst h2;have hl:=m3 h1;unfold Dp;cases ha:Lib.atoiAll s
 ·rename_i n;refine Ua (vals:=[.string ⟨⟨s⟩⟩]) (rs:=[.int .i64 n,.nilIface]) (gm Tryz.func133 rfl bx) B λw b=> ?_;refine(Tryz.strconv_Atoi_ok ⟨⟨s⟩⟩ bu n ha w).mono λe w' ⟨h3,h4⟩=>⟨h3,?_⟩;rcases h4 with rfl|⟨t,rfl⟩
  ·exact Below.refl _ _
  ·exact Joins.below_bytesWorld _ _ _ _ (cw _)
 ·refine mU (gm Tryz.func133 rfl bx) λG w cargs hs hv k1 k2=> ?_;rw[Ap (vals:=[.string ⟨⟨s⟩⟩]) hs hv];obtain⟨tp,p,hp⟩:=(B.kept k2).esyn;refine(Tryz.strconv_Atoi_syntax_var ⟨⟨s⟩⟩ bu (λv e=>by rw[ha]at e;cases e) (λe=>by rw[ha]at e;cases e) tp p w hp).mono λe w' ⟨N,h3,_,_,h4⟩=>⟨_,h3,h4,OU,λb h=>by simp[bZ]at h⟩
 ·refine mU (gm Tryz.func133 rfl bx) λG w cargs hs hv k1 k2=> ?_;rw[Ap (vals:=[.string ⟨⟨s⟩⟩]) hs hv];obtain⟨tp,p,hp⟩:=(B.kept k2).erng;refine(Tryz.strconv_Atoi_range_var ⟨⟨s⟩⟩ bu ha tp p w hp).mono λe w' ⟨N,h3,_,_,h4⟩=>⟨_,h3,h4,OU,λb h=>by simp[bZ]at h⟩
def LB {n b0 b1 b2 b3:Nat}(h:b0<128):Lib.decodeN n b0 b1 b2 b3=(b0,1):=by unfold Lib.decodeN;rw[bK h]
def Je {n b0 b1 b2 b3:Nat}(h: ¬b0<128):128<=(Lib.decodeN n b0 b1 b2 b3).1:=by
 unfold Lib.decodeN;rw[bE h]
 repeat' split
 all_goals first|omega|(simp only;omega)
def OM {p:Nat->Bool}{q:UInt8->Bool}(h1: ∀b:UInt8,b.toNat<128->p b.toNat=q b)(h2: ∀x,128<=x->p x=true)(h3: ∀b:UInt8,128<=b.toNat->q b=true)(s:List UInt8):
 ∀(f pos:Nat),s.length<=f+pos->decide (0<=Lib.idxFuncFrom p true ⟨⟨s⟩⟩ f pos)=(s.drop pos).any q
 |0,pos,hf=>by rw[gX bu];rfl|f+1,pos,hf=>by
  unfold Lib.idxFuncFrom;have hsz:(⟨⟨s⟩⟩:ByteArray).size=s.length:=rfl;by_cases hlt:pos<s.length
  ·rw[bK (by rw[hsz];exact hlt),Lib.decode_at,iM hlt,vJ];have hg:((⟨⟨s⟩⟩:ByteArray).get! pos)=s[pos]:=by simp[ByteArray.get!,hlt]
   rw[hg];by_cases hb:s[pos].toNat<128
   ·rw[LB hb];simp only;rw[h1 _ hb];cases hq:q s[pos]with|true=>simp|false=>rw[bE bG,OM h1 h2 h3 s f (pos+1) bu,om]
   ·rw[h2 _ (Je hb),bK rfl,h3 _ bu];simp
  ·rw[bE (by rw[hsz];exact hlt),gX bu];rfl
noncomputable def E0:Env:={E with prim:=λ_=>none}
def abe (W:World):Am E0 W:=λf g h=>by cases h
def aaQ:E0.P.follows .mixedOrders=true:=bx
def Rq {g:FuncId}{p:Nat->Bool}(hr: ∀x:Nat,(ev E0).call g [LV.int .i32 (x:Int)] []=some (.ret (LV.bool (p x)) [])):PredGrows Tryz.prog g #[] p w:=by
 intro W x hx hb;have hm:=Jk aaQ (abe W) (hr x);have he:(#[encR x]++(#[]:Array Value))= #[encR x]:=rfl;rw[he]
 obtain ⟨R, hT⟩ := Rel.top (w := W) (args := [CV.int .i32 (x : Int)]) (cargs := #[encR x]) (by
  intro j y hy;cases j with
  |zero=>simp at hy;subst hy;simp[VR]
  |succ j=>simp at hy)
 refine(hm.2 (Gh.top W) W #[encR x] rfl R ⟨cw _,λb _=>⟨rfl,hT b⟩⟩).mono λe w' h=> ?_;cases e with
 |returned cv=>
  simp only[jE]at h;obtain⟨O',R',E⟩:=h;have h0:=R'.fr 0;simp only[eJ,eu,gB,LVR,VR]at h0;have:cv= .bool (p x):=by simpa using h0
  subst this;exact⟨rfl,E.os,E.tape,E.output,E.size,λb hb=>(E.keep b hb (hT b)).1⟩
 |panicked ch=>exact h.elim|_=>exact h.elim
theorem NH {β:Type}{v:LV}{k:LV->Mu->Option β}{p:CV->Mu->Option β}:callK (some (.ret v μ)) k p=k v μ:=rfl
theorem UH {α β:Type}{a:α}{k:α->Option β}:opt (some a) k=k a:=rfl
def dIn (a b:Nat):decide ((a:Int)<(b:Int))=decide (a<b):=bG
def aez (x:Nat):(ev E0).call 186 [LV.int .i32 (x:Int)] []=some (.ret (LV.bool (decide (x<32)||decide (126<x))) []):=by refine b8 ?_;have:bN E0 (ev E0) 186 [LV.int .i32 (x:Int)] []=cond (decide ((x:Int)<32)) (some (.ret (LV.bool true) [])) (some (.ret (LV.bool (decide ((126:Int)<(x:Int)))) [])):=bx;have e1:decide ((x:Int)<32)=decide (x<32):=dIn x 32;have e2:decide ((126:Int)<(x:Int))=decide (126<x):=dIn 126 x;rw[this,e1,e2];cases decide (x<32)<;>rfl
def p44 (x:Nat):(ev E0).call 132 [LV.int .i32 (x:Int)] []=some (.ret (LV.bool (decide (x<48)||decide (57<x))) []):=by refine b8 ?_;have:bN E0 (ev E0) 132 [LV.int .i32 (x:Int)] []=cond (decide ((x:Int)<48)) (some (.ret (LV.bool true) [])) (some (.ret (LV.bool (decide ((57:Int)<(x:Int)))) [])):=bx;have e1:decide ((x:Int)<48)=decide (x<48):=dIn x 48;have e2:decide ((57:Int)<(x:Int))=decide (57<x):=dIn 57 x;rw[this,e1,e2];cases decide (x<48)<;>rfl
def Qt (b:Int):Bool:=(decide ((97:Int)<=b)&&decide (b<=122))||(decide ((65:Int)<=b)&&decide (b<=90))
def p90 {b:Int}:(ev E0).call 135 [LV.int .u8 b] []=some (.ret (LV.bool (Qt b)) []):=by
 refine b8 ?_
 have : bN E0 (ev E0) 135 [LV.int .u8 b] [] = cond (decide ((97 : Int) <= b)) (
  cond (decide (b <= (122 : Int))) (
  some (.ret (LV.bool true) [])) (
  cond (decide ((65 : Int) <= b)) (
  some (.ret (LV.bool (decide (b<=(90:Int)))) [])) (
  some (.ret (LV.bool false) [])))) (
  cond (decide ((65 : Int) <= b)) (
  some (.ret (LV.bool (decide (b<=(90:Int)))) [])) (
  some (.ret (LV.bool false) []))):=bx
 rw[this];unfold Qt;cases decide ((97:Int)<=b)<;>cases decide (b<=122)<;>cases decide ((65:Int)<=b)<;>rfl
def aeA {b:Int}:(ev E0).call 160 [LV.int .u8 b] []=some (.ret (LV.bool (decide ((48:Int)<=b)&&decide (b<=57))) []):=by refine b8 ?_;have:bN E0 (ev E0) 160 [LV.int .u8 b] []=cond (decide ((48:Int)<=b)) (some (.ret (LV.bool (decide (b<=(57:Int)))) [])) (some (.ret (LV.bool false) [])):=bx;rw[this];cases decide ((48:Int)<=b)<;>rfl
def Xc (b:Int):Bool:=Qt b||(decide ((48:Int)<=b)&&decide (b<=57))||decide (b=95)
theorem Tv {b:Bool}:ce (LV.bool b)=some b:=rfl
def p93 {b:Int}:(ev E0).call 138 [LV.int .u8 b] []=some (.ret (LV.bool (Xc b)) []):=by
 refine b8 ?_
 have : ∀ ρ : Rho, bN E0 ρ 138 [LV.int .u8 b] [] = callK (ρ.call 135 [LV.int .u8 b] []) (λv1 μ2 =>
  opt (ce v1) λb5=>
  cond (b5) (
  some (.ret (LV.bool true) μ2)) (
  callK (ρ.call 160 [LV.int .u8 b] μ2) (λv6 μ7 =>
  opt (ce v6) λb10=>
  cond (b10) (
  some (.ret (LV.bool true) μ7)) (
  some (.ret (LV.bool (decide (b=(95:Int)))) μ7))) (λv9 μ8=>
  bB (below (List.length μ8) v9) (some (.panic v9 μ8))))) (λv4 μ3=>
  bB (below (List.length μ3) v4) (some (.panic v4 μ3))):=by intro ρ;kernel_rfl
 rw[this,p90,NH,Tv,UH];unfold Xc;cases Qt b with|true=>rfl|false=>rw[bW,aeA,NH,Tv,UH];cases (decide ((48:Int)<=b)&&decide (b<=57))<;>rfl
def HV (x:Nat):Bool:=decide (126<x)|| !Xc (IntKind.wrap .u8 (x:Int))
def p92 (x:Nat):(ev E0).call 137 [LV.int .i32 (x:Int)] []=some (.ret (LV.bool (HV x)) []):=by
 refine b8 ?_
 have : ∀ ρ : Rho, bN E0 ρ 137 [LV.int .i32 (x : Int)] [] = cond (decide ((126 : Int) < (x : Int))) (
  some (.ret (LV.bool true) [])) (
  callK (ρ.call 138 [LV.int .u8 (IntKind.wrap .u8 (x : Int))] []) (λv1 μ2 =>
  opt (ce v1) λb5=>
  some (.ret (LV.bool (!b5)) μ2)) (λv4 μ3=>
  bB (below (List.length μ3) v4) (some (.panic v4 μ3)))):=by intro ρ;kernel_rfl
 have e2:decide ((126:Int)<(x:Int))=decide (126<x):=dIn 126 x;rw[this,p93,e2];unfold HV;cases decide (126<x)<;>rfl
def FI {g:FuncId}{p:Nat->Bool}{q:UInt8->Bool}(hr: ∀x:Nat,(ev E0).call g [LV.int .i32 (x:Int)] []=some (.ret (LV.bool (p x)) []))(hg: ∀args w,(callFunc g args).run Tryz.prog w= .ok (.enter g args) w)
 (h1: ∀b:UInt8,b.toNat<128->p b.toNat=q b) (h2: ∀x,128<=x->p x=true) (h3: ∀b:UInt8,128<=b.toNat->q b=true) {s:List UInt8}:
 fk E.P W0 131 [LV.str s,LV.cv (.clo g [])] μ (.ret (LV.bool (s.any q)) μ):=by
 refine mU (gm Tryz.func131 rfl bx) λG w cargs hs hv k1 k2=> ?_;have hc:cargs= #[.string ⟨⟨s⟩⟩,.func (.func g) #[] #[]]:=by
  have e0:=hv 0 _ rfl;have e1:=hv 1 _ rfl;simp only[LVR,VR]at e0 e1;obtain⟨vs,e1,e2⟩:=e1;simp only[VRL]at e2;have:vs= #[]:=by apply Array.ext';rw[e2]
  subst this;simp only[cB,cG]at hs;apply vM
  ·exact hs
  ·intro j hj1 hj2;have:j=0\/j=1:=by simp at hj2;omega
   rcases this with rfl|rfl
   ·rw[d7,vN hj1]at e0;simpa using e0
   ·rw[d7,vN hj1]at e1;simpa using e1
 rw[hc];refine(Tryz.strings_ContainsFunc_grows g #[] hg p ⟨⟨s⟩⟩ w (Rq hr)).mono λe w' ⟨h4,h5⟩=>⟨_,h4,h5,?_,λb h=>by simp[bZ]at h⟩;have:=OM h1 h2 h3 s s.length 0 bu;rw[jx]at this;have e:Lib.idxFunc p true ⟨⟨s⟩⟩=Lib.idxFuncFrom p true ⟨⟨s⟩⟩ s.length 0:=rfl;rw[e,this];rfl
def Wz: ∀i:Fin 128,HV i.val= !((decide (97<=i.val)&&decide (i.val<=122))||(decide (65<=i.val)&&decide (i.val<=90))||(decide (48<=i.val)&&decide (i.val<=57))||decide (i.val=95)):=co
end
end Go.Abs
namespace Go.Proofs.YtmemoghbijcebaaGreatDoor.Glue
open Go Go.Proofs Go.Abs Go.Shelf Go.Lib Go.ChangeShapes Go.WideShapes Go.ChangeAt Go.RowKit
def AA:List (String×DataW Unit):=[("math/bits.deBruijn32tab",Rows.laid_math_bits_deBruijn32tab),("math/bits.deBruijn64tab",Rows.laid_math_bits_deBruijn64tab),("internal/strconv.uint64pow10",Rows.laid_internal_strconv_uint64pow10),("unicode/utf8.acceptRanges",Rows.laid_unicode_utf8_acceptRanges),("strconv.ErrRange",Rows.laid_strconv_ErrRange),("strconv.ErrSyntax",Rows.laid_strconv_ErrSyntax),("unicode.CaseRanges",Rows.laid_unicode_CaseRanges),("unicode/utf8.first",Rows.laid_unicode_utf8_first)]
def YJ:Go.Shelf.Ren:=⟨λ|274=>220|n=>n,λ|21=>21|162=>231|160=>252|3=>3|4=>4|46=>223|0=>0|208=>260|51=>251|206=>258|n=>n,λ|13=>2|n=>n⟩
def lays274 : Go.Proofs.Lays.n274 Tryz.prog YJ := {
 mixed:=bx
 f274:=Tryz.func220.trans (congrArg some bx)
 t0:=Tryz.underlying0
 a0:=Tryz.isAgg0
 z0:=Tryz.sizeOf0
 v0:=Tryz.zeroValue0
 t3:=Tryz.underlying3
 a3:=Tryz.isAgg3
 z3:=Tryz.sizeOf3
 v3:=Tryz.zeroValue3
 t4:=Tryz.underlying4
 a4:=Tryz.isAgg4
 z4:=Tryz.sizeOf4
 v4:=Tryz.zeroValue4
 t21:=Tryz.underlying21
 a21:=Tryz.isAgg21
 z21:=Tryz.sizeOf21
 v21:=Tryz.zeroValue21
 t46:=Tryz.underlying223
 a46:=Tryz.isAgg223
 z46:=Tryz.sizeOf223
 v46:=Tryz.zeroValue223
 t51:=Tryz.underlying251
 a51:=Tryz.isAgg251
 z51:=Tryz.sizeOf251
 v51:=Tryz.zeroValue251
 t160:=Tryz.underlying252
 a160:=Tryz.isAgg252
 z160:=Tryz.sizeOf252
 v160:=Tryz.zeroValue252
 t162:=Tryz.underlying231
 a162:=Tryz.isAgg231
 z162:=Tryz.sizeOf231
 v162:=Tryz.zeroValue231
 t208:=Tryz.underlying260
 a208:=Tryz.isAgg260
 z208:=Tryz.sizeOf260
 v208:=Tryz.zeroValue260}
def ac2:Go.Shelf.Ren:=⟨λn=>n,λ|5=>5|119=>247|139=>250|138=>249|n=>n,λ|3=>4|4=>5|n=>n⟩
def ZS:U8Types Tryz.prog ac2:=⟨Tryz.underlying5,Tryz.underlying247,Tryz.underlying249,Tryz.underlying250⟩
def abo: "*" ++ "errors.errorString" = "*errors.errorString" :=co
def UY (u:TypeId)(h:Tryz.prog.typeName? 3 u=some "*errors.errorString"):u=244:=
 typeName_ptr_named (nm:= "errors.errorString") (by rw[abo];kernel_rfl) bx co u (by rw[abo];exact h)
def II {W:World}(hL:laidMet Tryz.prog AA W)(hS:W.ShapedOpen Tryz.prog):Base W:=by
 obtain⟨a0,t0,hv0,hc0,ht0,_⟩:=laid_sentinel (g:=1) hL.tail.tail.tail.tail bx bx Tryz.underlying165 UY Tryz.underlying244 Tryz.underlying246 rfl rfl Tryz.underlying9 bx bx;obtain⟨a1,t1,hv1,hc1,ht1,_⟩:=laid_sentinel (g:=0) hL.tail.tail.tail.tail.tail bx bx Tryz.underlying165 UY Tryz.underlying244 Tryz.underlying246 rfl rfl Tryz.underlying9 bx bx;have r4:=Lib.laidMet.reads hL (.tail _ (.tail _ (.tail _ (.head _))));have r7:=Lib.laidMet.reads hL (.tail _ (.tail _ (.tail _ (.tail _ (.tail _ (.tail _ (.head _)))))));have r8:=Lib.laidMet.reads hL (.tail _ (.tail _ (.tail _ (.tail _ (.tail _ (.tail _ (.tail _ (.head _))))))));have r7':VarReads Tryz.prog W "unicode.CaseRanges" caseData:=by rw[<-Pinned.caseRanges_eq];exact r7
 have r8':VarReads Tryz.prog W "unicode/utf8.first" firstData:=by rw[<-Pinned.utf8First_eq];exact r8
 refine⟨?_,?_,?_,?_,⟨_,_,hv1⟩,⟨_,_,hv0⟩⟩
 ·exact cell_of_shapedOpen_int (zero:= #[.int .i64 0]) (t:=3) hS (of_decide_eq_true bx) bx rfl bx bx Tryz.underlying3
 ·exact caseVar_of_reads lays274 Tryz.underlying258 ⟨bx,bx,bx,bx,bx,bx⟩ r7'
 ·exact utf8Tabs_of_readsT ZS ⟨bx,bx,bx,bx,bx,bx,bx⟩ r8' r4
 ·exact Lib.tabIs_of_head (g:=6) (t:=278) (e:=220) (n:=20) bx bx Tryz.underlying278 Tryz.underlying220 bx bx hL.tail.tail
end Go.Proofs.YtmemoghbijcebaaGreatDoor.Glue
set_option maxRecDepth 1000000
namespace Go.Proofs.YtmemoghbijcebaaGreatDoor.Glue
open Go Go.Proofs Go.Shelf Go.Lib Go.Great Go.ChangeShapes Go.WideShapes Go.ChangeAt Go.RowKit
def intsOf {H:Type}:DataW H->List Value
 | .agg l=>l.flatMap λ| .lit (.int k z)=>[Value.int k z]| .agg [.lit (.int k z),.lit (.int k' z')]=>[Value.int k z,Value.int k' z']|_=>[]
 |_=>[]
def Vi (l:List UInt8):Value:= .string ⟨l.toArray⟩
noncomputable def mg (os:Os):World:=
 let N:=(World.settled Tryz.prog os).heap.size
 let w0 := World.holding Tryz.prog os ⟨#[.cells (caseT.flatMap cells5).toArray 260,
  .cells #[Vi [118,97,108,117,101,32,111,117,116,32,111,102,32,114,97,110,103,101]] 246,
  .cells #[Vi [105,110,118,97,108,105,100,32,115,121,110,116,97,120]] 246],#[],[]⟩
 let put (h:Array Obj) (g:Nat) (cs:Array Value):Array Obj:=h.modify g λ
  | .cells _ t frozen=> .cells cs t frozen|o=>o
 let h1:=put w0.heap 0 #[.iface 244 (.pointer (some ⟨N+2,0,none⟩))];let h2:=put h1 1 #[.iface 244 (.pointer (some ⟨N+1,0,none⟩))];let h3:=put h2 2 #[.slice (some ⟨N,0,none⟩) caseT.length caseT.length];let h4:=put h3 4 (Lib.firstTab.map λz=>Value.int .u8 z).toArray;let h5:=put h4 5 (intsOf (H:=Unit) Rows.laid_unicode_utf8_acceptRanges).toArray;let h6:=put h5 6 (intsOf (H:=Unit) Rows.laid_internal_strconv_uint64pow10).toArray;let h7:=put h6 7 (intsOf (H:=Unit) Rows.laid_math_bits_deBruijn32tab).toArray;let h8:=put h7 8 (intsOf (H:=Unit) Rows.laid_math_bits_deBruijn64tab).toArray
 {w0 with heap:=h8}
noncomputable abbrev N0:Nat:=(World.settled Tryz.prog default).heap.size
def cty:CTypes Tryz.prog 231 260 258 251 21:=⟨by kernel_rfl,by kernel_rfl,by kernel_rfl,by kernel_rfl,by kernel_rfl,by kernel_rfl,by kernel_rfl,by kernel_rfl,by kernel_rfl⟩
def abb (os:Os)(args:Array Value):LaidIn Tryz.prog ((mg os).forCall (λ_ _=>0) ⟨#[],args,[]⟩).memory (AA.take 6) [7,8,6,5,1,N0+1,0,N0+2]:=
 LaidIn.of_run [7,8,6,5,1,N0+1,0,N0+2] 8 (by kernel_rfl) (by kernel_rfl) (by kernel_rfl) (by kernel_rfl)
def abc (os:Os)(args:Array Value):LaidIn Tryz.prog ((mg os).forCall (λ_ _=>0) ⟨#[],args,[]⟩).memory [("unicode.CaseRanges",Rows.laid_unicode_CaseRanges)] [2,N0]:=by have e:Rows.laid_unicode_CaseRanges= .slice (caseT.map rowData) []:=Pinned.caseRanges_eq;rw[e];exact laidIn_case cty (g:=2) (B:=N0) (tg:=231) (tb:=260) caseT (by kernel_rfl) (by kernel_rfl) (Nat.le_of_ble_eq_true (by kernel_rfl)) (by kernel_rfl) (by kernel_rfl) (by kernel_rfl) (Nat.ne_of_beq_eq_false (by kernel_rfl))
def abd (os:Os)(args:Array Value):LaidIn Tryz.prog ((mg os).forCall (λ_ _=>0) ⟨#[],args,[]⟩).memory [("unicode/utf8.first",Rows.laid_unicode_utf8_first)] [4]:=
 LaidIn.of_run [4] 8 (by kernel_rfl) (by kernel_rfl) (by kernel_rfl) (by kernel_rfl)
def Wp (os:Os)(args:Array Value):laidMet Tryz.prog AA ((mg os).forCall (λ_ _=>0) ⟨#[],args,[]⟩).memory:=
 ((((abb os args).append (abc os args) (by kernel_rfl)).append (abd os args) (by kernel_rfl))).met
def own:ownKnob Tryz.prog.godebug=none:=by kernel_rfl
end Go.Proofs.YtmemoghbijcebaaGreatDoor.Glue
