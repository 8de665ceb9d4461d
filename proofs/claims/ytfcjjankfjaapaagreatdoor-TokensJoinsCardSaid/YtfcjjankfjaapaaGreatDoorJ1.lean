/-
  The statement TokensJoinsCardSaid, proved; part 2 of 8 of its proof.
  One operation: those that turn no memory.
  One operation: parts, addresses, loads.
  One operation: parts of strings, slices and arrays; lengths; conversions that make no memory.
  One operation: those that make memory.
  One operation: slice literals, a string's bytes.
  One operation: stores.
  One operation: append.
  Calls: what a call is asked to do, and the caller's state behind it.
  Calls that see nothing of the caller's own variables.
  Calls that see the caller's own variables: they are handed down as a new level of the outer heap.
  Maps, and what an interface value holds.
  One operation: all of them.
-/
import Derived.Test.YtfcjjankfjaapaaGreatDoorJ0
import Derived.MapKept
set_option linter.all false
set_option linter.unusedSectionVars false
set_option linter.unusedVariables false
set_option linter.unusedSimpArgs false
namespace Go.Abs
open Go
section
variable {P:Program}{ρ:Rho}{α:Type}{L:Nat}{G:Gh}{w:World}{s:S}{μ:Mu}{a:Act}{o:Oper}{h:OpHint}{k:LV→S→Mu→Option α}{p:CV→S→Mu→Option α}{r:α}{K:Act→World→Prop}{Q:Exit→Act→World→Prop}
theorem cN {x:Sem Value}{v:Value}{w':World}(h:x.run P w= .ok v w'):(do pure (Next.value (←x)):Sem Next).run P w= .ok (.value v) w':=by
 rw[Sem.run_bind,h];rfl
theorem cC (R:Rel G L s μ a.tmps w){x:Operand}{c:CV}(e:evA h s.fr x= .cv c):VR G w c (a.eval x):=by
 have:=(aZ R h x).1
 rw[e]at this
 simpa[LVR]using this
theorem gZ (R:Rel G L s μ a.tmps w){x:Operand}{k:IntKind}{n:Int}(e:evA h s.fr x= .cv (.v (.int k n))):a.eval x= .int k n:=by
 have:=cC R e
 simpa[VR]using this
theorem gW (R:Rel G L s μ a.tmps w){x:Option Operand}{d:Int}{β:Type}{k:Int→Option β}{r:β}(hb:cV (evA h s.fr) x d k=some r):
  ∃n,kn (x.map a.eval) d n∧k n=some r:=by
 rcases CY hb with⟨rfl,h1⟩|⟨o,kd,n,rfl,h1,h2⟩
 ·exact⟨d,.inl ⟨rfl,rfl⟩,h1⟩
 ·exact⟨n,.inr ⟨kd,by simp[gZ R h1]⟩,h2⟩
theorem Kh {x:Operand}(ho:o.op= .move x∨o.op= .assign x)(R:Rel G L s μ a.tmps w)(hd: ∀d,o.dst=some d→d<a.tmps.size)(hk:KOK L G w s μ a o.dst k r K)
  (hop:k (evA h s.fr x) (ad h.take s) μ=some r):o.wp P a w K Q:=
 dn R hd hk hop (by rcases ho with ho|ho<;>simp[execOp,ho]) (aZ R h x).1 (aZ R h x).2
theorem RM {c x y:Operand}(ho:o.op= .pick c x y)(R:Rel G L s μ a.tmps w)(hd: ∀d,o.dst=some d→d<a.tmps.size)(hk:KOK L G w s μ a o.dst k r K)
  (hop:opt (aM (evA h s.fr c)) (fun t=>k (xj t (evA h s.fr x) (evA h s.fr y)) (ad h.take s) μ)=some r):o.wp P a w K Q:=by
 obtain⟨t,h1,h2⟩:=ab.1 hop
 have hc:=cC R (ft h1)
 simp only[VR]at hc
 obtain⟨hv,hw⟩:=Mn (t:=t) (aZ R h x).1 (aZ R h y).1
 refine dn R hd hk h2 (cv:=if t=true then a.eval x else a.eval y) (by simp[execOp,ho,hc,asBool]) hv fun b hb=> ?_
 rcases hw b hb with hb|hb
 ·exact(aZ R h x).2 b hb
 ·exact(aZ R h y).2 b hb
theorem Qg {t:TypeId}{parts:Array (Nat×Operand)}(ho:o.op= .build t parts)(R:Rel G L s μ a.tmps w)(hd: ∀d,o.dst=some d→d<a.tmps.size)(hk:KOK L G w s μ a o.dst k r K)
  (hop:opt (dv (evA h s.fr) parts.toList) (fun ps=>opt (A1 P t ps) fun c=>k (.cv c) (ad h.take s) μ)=some r):o.wp P a w K Q:=by
 obtain⟨ps,h1,h2⟩:=ab.1 hop
 obtain⟨c,h3,h4⟩:=ab.1 h2
 refine cB R hd hk h4 ?_
 have hp:=om R h h1
 unfold A1 at h3
 obtain⟨z,hz,h3⟩:=ab.1 h3
 obtain⟨zv,i,_,_,hzr,hzl⟩:=jh (G:=G) (w:=w) hz
 have hparts:(parts.map fun q=>(q.1,a.eval q.2)).toList=parts.toList.map fun q=>(q.1,a.eval q.2):=by simp
 split at h3
 ·rename_i fs hu
  obtain⟨pl,hpl,h3⟩:=ab.1 h3
  obtain⟨cs,hf,h3⟩:=ab.1 h3
  simp only[Option.some.injEq]at h3
  subst h3
  obtain⟨b,hb,hr,_⟩:=qf hp hzl hf
  have hmap: ∀(l:List Field) (pl:List (Nat×Nat)),iT P l=some pl→(l.mapM fun f=>(do pure (f.offset,←sizeOf f.type):Sem (Nat×Nat))).run P w= .ok pl w:=by
   intro l
   induction l with
   |nil=>intro pl h;simp only[iT,Option.some.injEq]at h;subst h;simp
   |cons f l ih=>
    intro pl h
    simp only[iT]at h
    obtain⟨n,hn,h⟩:=ab.1 h
    obtain⟨q,hq,h⟩:=ab.1 h
    simp only[Option.some.injEq]at h
    subst h
    simp only[List.mapM_cons,Sem.run_bind,dp hn,Result.andThen_ok,Sem.run_pure,ih q hq]
  have hm:=hmap fs.toList pl hpl
  have hm2:(fs.mapM fun f=>(do pure (f.offset,←sizeOf f.type):Sem (Nat×Nat))).run P w= .ok pl.toArray w:=by
   rw[Array.mapM_eq_mapM_toList,Sem.run_map,hm]
   rfl
  refine⟨.agg b,?_,by simp only[VR];exact⟨b,rfl,hr⟩⟩
  simp only[execOp,ho]
  refine cN ?_
  have hpe:(fun(x:Nat)=>(pl.toArray)[x]?)=fun(i:Nat)=>pl[i]? :=by funext i;simp
  simp only[Instr.build,Sem.run_bind,hzr,Result.andThen_ok,run_underlying hu,hm2,hparts,hpe,hb,Sem.run_pure]
 ·rename_i n e hu
  obtain⟨sz,hsz,h3⟩:=ab.1 h3
  obtain⟨cs,hf,h3⟩:=ab.1 h3
  simp only[Option.some.injEq]at h3
  subst h3
  obtain⟨b,hb,hr,_⟩:=qf hp hzl hf
  refine⟨.agg b,?_,by simp only[VR];exact⟨b,rfl,hr⟩⟩
  simp only[execOp,ho]
  refine cN ?_
  simp only[Instr.build,Sem.run_bind,hzr,Result.andThen_ok,run_underlying hu,dp hsz,hparts,hb,Sem.run_pure]
 ·simp at h3
theorem GZ {x:Operand}(ho:o.op= .nilCheck x)(R:Rel G L s μ a.tmps w)(hd: ∀d,o.dst=some d→d<a.tmps.size)(hk:KOK L G w s μ a o.dst k r K)
  (hop:opt (jZ (evA h s.fr x)) (fun b=>aB (!b) (k (pg (evA h s.fr x)) (ad h.take s) μ))=some r):o.wp P a w K Q:=by
 obtain⟨b,h1,h2⟩:=ab.1 hop
 obtain⟨h3,h4⟩:=aI.1 h2
 have hb:b=false:=by simpa using h3
 subst hb
 obtain⟨h5,h6⟩:=Jr (aZ R h x).1
 exact dn R hd hk h4 (wQ h1 (aZ R h x).1 x rfl ho) h5 fun b hb=>(aZ R h x).2 b (h6 b hb)
theorem Qf {op:BinOp}{t ty:TypeId}{x y:Operand}(ho:o.op= .binOp op t x y ty)(R:Rel G L s μ a.tmps w)(hd: ∀d,o.dst=some d→d<a.tmps.size)(hk:KOK L G w s μ a o.dst k r K)
  (hop:(nZ P op t x y (evA h s.fr x) (evA h s.fr y) fun c=>k (.cv c) (ad h.take s) μ)=some r):o.wp P a w K Q:=by
 obtain⟨c,h1,h2⟩:=Ka (fun _ e=>by subst e;rfl) (fun _ e=>by subst e;rfl) hop
 refine cB R hd hk h2 ?_
 obtain⟨cv,h3,h4⟩:=Nq h1 (aZ R h x).1 (aZ R h y).1 (fun cc e=>by subst e;rfl) (fun cc e=>by subst e;rfl)
 refine⟨cv,?_,by subst h4;simp[VR]⟩
 simp only[execOp,ho]
 exact cN h3
theorem RN {op:UnOp}{t:TypeId}{x:Operand}(ho:o.op= .unOp op t x)(R:Rel G L s μ a.tmps w)(hd: ∀d,o.dst=some d→d<a.tmps.size)(hk:KOK L G w s μ a o.dst k r K)
  (hop:opt (unA op (evA h s.fr x)) (fun c=>k (.cv c) (ad h.take s) μ)=some r):o.wp P a w K Q:=by
 obtain⟨c,h1,h2⟩:=ab.1 hop
 refine cB R hd hk h2 ?_
 obtain⟨cv,h3,h4⟩:=Rx (P:=P) h1 (aZ R h x).1
 refine⟨cv,?_,by subst h4;simp[VR]⟩
 simp only[execOp,ho]
 exact cN h3
theorem wz {t:TypeId}{x:Operand}{d:TypeDesc}(ho:o.op= .makeInterface t x)(hu:P.underlying t=some d)(hni: ∀ms,d≠ .interface ms)(R:Rel G L s μ a.tmps w)(hd: ∀d,o.dst=some d→d<a.tmps.size)(hk:KOK L G w s μ a o.dst k r K)
  (hop:opt (dm (evA h s.fr x)) (fun c=>k (.cv (.iface t c)) (ad h.take s) μ)=some r):o.wp P a w K Q:=by
 obtain⟨c,h1,h2⟩:=ab.1 hop
 refine cB R hd hk h2 ⟨.iface t (a.eval x),?_,by simp only[VR];exact⟨_,rfl,eQ h1 (aZ R h x).1⟩⟩
 simp only[execOp,ho]
 refine cN ?_
 simp only[Instr.makeInterface,Sem.run_bind,run_underlying hu,Result.andThen_ok]
 cases d<;>first|exact absurd rfl (hni _)|rfl
theorem GY {f:FuncId}{first captured:Array Operand}(ho:o.op= .makeFunc (.func f) first captured)(hf:first.toList=[])(R:Rel G L s μ a.tmps w)(hd: ∀d,o.dst=some d→d<a.tmps.size)(hk:KOK L G w s μ a o.dst k r K)
  (hop:k (.lclo f (captured.toList.map fun x=>strip1 (evA h s.fr x))) (ad h.take s) μ=some r):o.wp P a w K Q:=by
 have hf':first= #[]:=by cases first;simp_all
 subst hf'
 refine dn R hd hk hop (cv:= .func (.func f) #[] (captured.map a.eval)) ?_ ?_ (fun b hb=>by simp[aE]at hb)
 ·simp only[execOp,ho];exact cN (by simp[Instr.makeFunc])
 ·simp only[LVR]
  refine⟨_,rfl,?_⟩
  rw[Array.toList_map]
  generalize captured.toList=l
  induction l with
  |nil=>simp[bV]
  |cons x l ih=>
   simp only[List.map_cons,bV]
   exact⟨_,_,rfl,(iq (aZ R h x).1).2,(iq (aZ R h x).1).1,ih⟩
theorem Kf {x:Operand}{i:Nat}(ho:o.op= .extract x i)(R:Rel G L s μ a.tmps w)(hd: ∀d,o.dst=some d→d<a.tmps.size)(hk:KOK L G w s μ a o.dst k r K)
  (hop:opt (aS (evA h s.fr x)) (fun xs=>opt (xs[i]?) fun v=>k v (ad h.take s) μ)=some r):o.wp P a w K Q:=by
 obtain⟨xs,h1,h2⟩:=ab.1 hop
 obtain⟨v,h3,h4⟩:=ab.1 h2
 have hv:=(aZ R h x).1
 rw[yW h1]at hv
 simp only[LVR]at hv
 obtain⟨vs,e,hl⟩:=hv
 obtain⟨cv,h5,h6,h7⟩:=(pm hl).2 i v h3
 refine dn R hd hk h4 (cv:=cv) ?_ h6 (fun b hb=>absurd hb (mN h7))
 simp only[execOp,ho,e]
 refine cN ?_
 have h5':vs[i]? =some cv:=by simpa using h5
 simp[Instr.extract,h5']
theorem Qj {x:Operand}{t:TypeId}{c:CV}(ho:o.op= .panic x)(R:Rel G L s μ a.tmps w)(hp:POK L G w s μ a p r Q)(he:evA h s.fr x= .cv (.iface t c))
  (hop:p (.iface t c) (ad h.take s) μ=some r):o.wp P a w K Q:=by
 obtain⟨R',hh⟩:=Rel.strips h.take R
 have hl:=aU h.take s
 have hv:=cC R he
 have hv':=hv
 simp only[VR]at hv'
 obtain⟨u,e,_⟩:=hv'
 refine Ey (v:=a.eval x) (w':=w) ?_ (hp _ _ μ _ w G hop R' hv (Ext.refl G w fun b hb=> ?_))
 ·rw[e];simp only[execOp,ho,e];rfl
 ·rcases hb with⟨l,hb⟩|hb
  ·exact .inl ⟨l,(hh l b (by rw[←hl.1];exact hb)).2⟩
  ·exact .inr (by rw[←hl.1];exact hb)
end
end Go.Abs
set_option linter.unusedVariables false
set_option linter.unusedSimpArgs false
namespace Go.Abs
open Go
theorem mL (G:Gh)(w:World)(lev:Nat):Le (G.below lev) w G w:=by
 refine⟨fun _ _ _ h hb=>⟨h,hb⟩,fun l i h=> ?_,fun _ _ _ h hc=>⟨h,hc⟩,fun b cur e fz h=>⟨cur,fz,h,rfl⟩⟩
 simp only[Gh.below]at h ⊢
 split at h
 ·refine⟨?_,?_,?_⟩<;>first|exact h|trivial|rfl
 ·omega
mutual
theorem nu {G:Gh}{w:World}{lev L nl:Nat}: ∀(x:LV) (v:Value),LVR (G.below lev) w lev 0 x v→LVR G w L nl x v
 | .cv c,v,h=>by simp only[LVR]at h ⊢; exact bm (mL G w lev) c v h
 | .osl xs,v,h=>by simp only[LVR]at h ⊢; exact jN (mL G w lev) (fun _ _ _ _=>⟨rfl,rfl⟩) h
 | .ost xs,v,h=>by simp only[LVR]at h ⊢; exact h
 | .stl n,v,h=>by simpa[LVR]using h
 | .loc i off,v,h=>by simp only[LVR]at h;omega
 | .lsl i off len,v,h=>by simp only[LVR]at h;omega
 | .mloc i,v,h=>by simp only[LVR]at h;omega
 | .tloc i t n,v,h=>by simp only[LVR]at h;omega
 | .lclo f caps,v,h=>by
  simp only[LVR]at h ⊢
  obtain⟨vs,e,hl⟩:=h
  exact⟨vs,e,pn caps _ hl⟩
 | .ltup xs,v,h=>by
  simp only[LVR]at h ⊢
  obtain⟨vs,e,hl⟩:=h
  exact⟨vs,e,pn xs _ hl⟩
theorem pn {G:Gh}{w:World}{lev L nl:Nat}: ∀(xs:List LV) (vs:List Value),bV (G.below lev) w lev 0 xs vs→bV G w L nl xs vs
 |[],vs,h=>by simpa[bV]using h
 |x::xs,vs,h=>by
  simp only[bV]at h ⊢
  obtain⟨v,r,e,h0,h1,h2⟩:=h
  exact⟨v,r,e,h0,nu x v h1,pn xs r h2⟩
end
section
variable {P:Program}{ρ:Rho}{α:Type}{L:Nat}{G:Gh}{w:World}{s:S}{μ:Mu}{a:Act}{o:Oper}{h:OpHint}{k:LV→S→Mu→Option α}{p:CV→S→Mu→Option α}{r:α}{K:Act→World→Prop}{Q:Exit→Act→World→Prop}
theorem Ho {cs:List LV}{l:List CV}{nl:Nat}{vs:List Value}(hl:qH cs=some l)(hlen:vs.length=cs.length)(hr: ∀j x,cs[j]? =some x→LVR G w L nl x (vs.getD j undef)):VRL G w l vs:=by
 obtain⟨e,hg⟩:=sU hl
 refine eG (by omega) fun j c v hc hv=> ?_
 obtain⟨x,hx,hgc⟩:=hg j c hc
 have:=hr j x hx
 rw[List.getD_eq_getElem?_getD,hv]at this
 exact eQ hgc this
theorem ng {t:TypeId}{ob:Ob}{off nl b sz:Nat}{v:LV}(hob:ObR G w L nl b sz ob)(h:oZ P t ob off=some v)(hd: ∃d,P.underlying t=some d):
  ∃cv,(Instr.loadAt t (.pointer (some ⟨b,off,none⟩))).run P w= .ok cv w∧LVR G w L nl v cv∧ ∀b',¬aE v cv b':=by
 unfold oZ at h
 cases ob with
 |dead=>simp at h
 |map ks vs=>simp at h
 |cells cs=>
  simp only[ObR]at hob h
  obtain⟨cur,e,fz,hb,hu,hO,hsz,hr⟩:=hob
  have hcell: ∀(n:Nat) (hn:off+n≤cur.size) (j:Nat) v,((List.range n).map fun j=>cur.getD (off+j) undef)[j]? =some v→w.cell? ⟨b,off+j,none⟩=some v:=by
   intro n hn j v hv
   simp only[List.getElem?_map,Option.map_eq_some_iff]at hv
   obtain⟨q,hq,rfl⟩:=hv
   have hj:j<n:=by have:=(List.getElem?_eq_some_iff.1 hq).1;simpa using this
   have:q=j:=by rw[List.getElem?_range hj]at hq;exact(Option.some.inj hq).symm
   subst this
   exact cell_of_heap hb (by omega)
  split at h
  ·rename_i ha
   obtain⟨n,hn,h⟩:=ab.1 h
   split at h<;>try(simp at h;done)
   rename_i hle
   have hle:=Nat.le_of_ble_eq_true hle
   obtain⟨l,hl,h⟩:=ab.1 h
   simp only[Option.some.injEq]at h
   subst h
   refine⟨_,(ia (hcell n (by omega)) hd).1 ha n hn (by simp),?_,fun b' hb'=>by simp[aE]at hb'⟩
   simp only[LVR,VR]
   refine⟨_,rfl,Ho (L:=L) (nl:=nl) hl (by simp only[List.length_map,List.length_range,List.length_take,List.length_drop];omega) fun j x hx=> ?_⟩
   have hjn:j<n:=by
    have:=(List.getElem?_eq_some_iff.1 hx).1
    simp only[List.length_take]at this;omega
   rw[List.getElem?_take_of_lt hjn,List.getElem?_drop]at hx
   have:=hr (off+j) x hx
   rw[List.getD_eq_getElem?_getD]
   simpa[List.getElem?_map,List.getElem?_range hjn]using this
  ·rename_i ha
   split at h<;>simp only[Option.some.injEq,reduceCtorEq]at h
   rename_i x hx
   subst h
   have hj:off<cs.length:=(List.getElem?_eq_some_iff.1 hx).1
   refine⟨cur.getD off undef,(ia (vs:=[cur.getD off undef]) (fun j u hu=> ?_) hd).2 (by simpa using ha) _ rfl,jn (hr off x hx),fun b'=>ir⟩
   cases j with
   |zero=>simp only[List.getElem?_cons_zero,Option.some.injEq]at hu;subst hu;exact cell_of_heap hb (by omega)
   |succ j=>simp at hu
 |arr k cs=>
  simp only[ObR]at hob h
  obtain⟨hk,cur,e,fz,hb,hu,hO,hsz,hr⟩:=hob
  obtain⟨c,hc,h⟩:=ab.1 h
  simp only[Option.some.injEq]at h
  subst h
  have hO':Le G w (G.setO b cur.size) w→CL (G.setO b cur.size) w b 0 cs:=fun hle=>CL_of fun j c hc=>by
   have hj:j<cur.size:=by have:=(List.getElem?_eq_some_iff.1 hc).1;omega
   exact⟨cur.getD j undef,by rw[Nat.zero_add];exact cell_of_heap hb hj,by rw[dc];omega,bm hle c _ (hr j c hc)⟩
  unfold gt at hc
  split at hc
  ·rename_i ha
   obtain⟨n,hn,hc⟩:=ab.1 hc
   split at hc<;>simp only[Option.some.injEq,reduceCtorEq]at hc
   rename_i hle
   have hle:=Nat.le_of_ble_eq_true hle
   subst hc
   have hcell: ∀(j:Nat) v,((List.range n).map fun j=>cur.getD (off+j) undef)[j]? =some v→w.cell? ⟨b,off+j,none⟩=some v:=by
    intro j v hv
    simp only[List.getElem?_map,Option.map_eq_some_iff]at hv
    obtain⟨q,hq,rfl⟩:=hv
    have hj:j<n:=by have:=(List.getElem?_eq_some_iff.1 hq).1;simpa using this
    have:q=j:=by rw[List.getElem?_range hj]at hq;exact(Option.some.inj hq).symm
    subst this
    exact cell_of_heap hb (by omega)
   refine⟨_,(ia hcell hd).1 ha n hn (by simp),?_,fun b' hb'=>by simp[aE]at hb'⟩
   simp only[LVR,VR]
   refine⟨_,rfl,eG (by simp only[List.length_map,List.length_range,List.length_take,List.length_drop];omega) fun j c v hc hv=> ?_⟩
   have hjn:j<n:=by
    have:=(List.getElem?_eq_some_iff.1 hc).1
    simp only[List.length_take]at this;omega
   rw[List.getElem?_take_of_lt hjn,List.getElem?_drop]at hc
   have:=hr (off+j) c hc
   have hv':v=cur.getD (off+j) undef:=by
    simp only[List.getElem?_map,List.getElem?_range hjn,Option.map_some,Option.some.injEq]at hv
    exact hv.symm
   rw[hv'];exact this
  ·rename_i ha
   have hj:off<cs.length:=(List.getElem?_eq_some_iff.1 hc).1
   refine⟨cur.getD off undef,(ia (vs:=[cur.getD off undef]) (fun j u hu=> ?_) hd).2 (by simpa using ha) _ rfl,by simp only[LVR];exact hr off c hc,fun b' hb'=>by simp[aE]at hb'⟩
   cases j with
   |zero=>simp only[List.getElem?_cons_zero,Option.some.injEq]at hu;subst hu;exact cell_of_heap hb (by omega)
   |succ j=>simp at hu
theorem fk {t:TypeId}{cs:List CV}{off:Nat}{c:CV}(h:o6 P t cs off=some c):gt P t cs off=some c∧ ∃d,P.underlying t=some d:=by
 unfold o6 at h
 obtain⟨d,h1,h2⟩:=ab.1 h
 exact⟨h2,d,h1⟩
theorem Qh {t:TypeId}{x:Operand}{f:Nat}(ho:o.op= .field t x f)(R:Rel G L s μ a.tmps w)(hd: ∀d,o.dst=some d→d<a.tmps.size)(hk:KOK L G w s μ a o.dst k r K)
  (hop:opt (Bw P t (evA h s.fr x) f) (fun v=>k v (ad h.take s) μ)=some r):o.wp P a w K Q:=by
 obtain⟨v,h1,h2⟩:=ab.1 hop
 unfold Bw at h1
 obtain⟨q,hq,h1⟩:=ab.1 h1
 obtain⟨cs,hc,h1⟩:=ab.1 h1
 obtain⟨c,ht,h1⟩:=ab.1 h1
 simp only[Option.some.injEq]at h1
 subst h1
 have hv:=cC R (nI hc)
 simp only[VR]at hv
 obtain⟨vs,e,hl⟩:=hv
 obtain⟨u,h3,h4⟩:=Lm hq (fk ht).1 (fk ht).2 hl
 refine cB R hd hk h2 ⟨u,?_,h4⟩
 simp only[execOp,ho,e]
 exact cN h3
theorem G7 {cs cs':List CV}{b off n:Nat}(h:CL G w b off cs)(hf:iO cs cs')(hn:n≤cs'.length):VR G w (.view (cs'.drop n)) (.pointer (some ⟨b,off+n,none⟩)):=by
 simp only[VR]
 exact⟨b,off+n,rfl,ov n (hf.CL h)⟩
theorem CZ {t:TypeId}{x:Operand}{f:Nat}(ho:o.op= .fieldAddr t x f)(R:Rel G L s μ a.tmps w)(hd: ∀d,o.dst=some d→d<a.tmps.size)(hk:KOK L G w s μ a o.dst k r K)
  (hop:eH P h t (evA h s.fr x) f (fun v=>k v (ad h.take s) μ)=some r):o.wp P a w K Q:=by
 unfold eH at hop
 obtain⟨q,hq,hop⟩:=ab.1 hop
 have hrun: ∀b off,a.eval x= .pointer (some ⟨b,off,none⟩)→(execOp a.eval o).run P w= .ok (.value (.pointer (some ⟨b,off+q.1,none⟩))) w:=by
  intro b off e
  simp only[execOp,ho,e]
  exact cN (Da hq b off)
 split at hop
 ·rename_i i off he
  have hv:=(aZ R h x).1
  rw[he]at hv
  simp only[LVR]at hv
  exact dn R hd hk hop (hrun _ _ hv.2) (by simp only[LVR];exact⟨hv.1,trivial⟩) (fun b hb=>by simp[aE]at hb)
 ·rename_i c he
  split at hop
  ·obtain⟨cs,hc,hop⟩:=ab.1 hop
   obtain⟨cs',h1,hf⟩:=jS hop
   obtain⟨hle,h2⟩:=aI.1 h1
   have hv:=cC R (qh hc)
   simp only[VR]at hv
   obtain⟨b,off,e,hl⟩:=hv
   exact cB R hd hk h2 ⟨_,hrun b off e,G7 hl hf (Nat.le_of_ble_eq_true hle)⟩
  ·obtain⟨q',hc,hop⟩:=ab.1 hop
   have hv:=cC R (nJ hc)
   simp only[VR]at hv
   exact cB R hd hk hop ⟨_,hrun _ _ hv.2,by simp only[VR];exact⟨hv.1,trivial⟩⟩
 ·simp at hop
theorem ss {l:Lam}{i:Nat}{o:Ob}:bD (μ++[l]) μ.length i o=μ++[l.set i o]:=by
 simp[bD]
theorem lM {l:Lam}{lev i:Nat}{o:Ob}(h:lev<μ.length):bD (μ++[l]) lev i o=bD μ lev i o++[l]:=by
 unfold bD
 rw[List.getElem?_append_left h]
 cases μ[lev]? with
 |none=>rfl
 |some x=>simp[List.set_append_left _ _ h]
theorem ur {t:TypeId}{ob:Ob}{off:Nat}{q:LV×Ob}(h:ie P t ob off=some q):eo P t=false∧(∃d,P.underlying t=some d)∧ ∃cs,ob= .cells cs∧cs[off]? =some q.1∧q.2= .cells (cs.set off (strip q.1)):=by
 unfold ie at h
 obtain⟨d,hd,h⟩:=ab.1 h
 split at h<;>try(simp at h;done)
 rename_i ha
 cases ob with
 |dead=>simp at h
 |map ks vs=>simp at h
 |arr k cs=>simp at h
 |cells cs=>
  simp only at h
  cases hx:cs[off]? with
  |none=>simp[hx]at h
  |some x=>
   simp only[hx,Option.some.injEq]at h
   subst h
   exact⟨by simpa using ha,⟨d,hd⟩,cs,rfl,hx,rfl⟩
theorem BJ {t:TypeId}{b off:Nat}{cur:Array Value}{e:TypeId}{fz:Nat×Nat}(hb:w.heap[b]? =some (.cells cur e fz))(hoff:off<cur.size)(ha:eo P t=false)(hd: ∃d,P.underlying t=some d):
  (Instr.loadAt t (.pointer (some ⟨b,off,none⟩))).run P w= .ok (cur.getD off undef) w:=by
 refine(ia (vs:=[cur.getD off undef]) (fun j u hu=> ?_) hd).2 ha _ rfl
 cases j with
 |zero=>simp only[List.getElem?_cons_zero,Option.some.injEq]at hu;subst hu;exact cell_of_heap hb hoff
 |succ j=>simp at hu
theorem dB (R:Rel G L s μ a.tmps w)(ts:List Nat):Rel G L (ad ts s) μ a.tmps w∧Ext L (az G w s μ a.tmps) G w G w (az G w (ad ts s) μ a.tmps)∧
  (∀l b,ax G w (ad ts s).fr a.tmps (μ++[(ad ts s).lam]) l b→(∀t,t∈ts→l≠ .fr t)∧ax G w s.fr a.tmps (μ++[s.lam]) l b):=by
 obtain⟨R',h⟩:=Rel.strips ts R
 have hl:=aU ts s
 refine⟨R',Ext.refl G w fun b hb=> ?_,fun l b hb=>h l b (by rw[←hl.1];exact hb)⟩
 rcases hb with⟨l,hb⟩|hb
 ·exact .inl ⟨l,(h l b (by rw[←hl.1];exact hb)).2⟩
 ·exact .inr (by rw[←hl.1];exact hb)
theorem RL {t:TypeId}{x:Operand}(ho:o.op= .load t x)(R:Rel G L s μ a.tmps w)(hd: ∀d,o.dst=some d→d<a.tmps.size)(hk:KOK L G w s μ a o.dst k r K)
  (hop:gn P h t (evA h s.fr x) (ad h.take s) μ k=some r):o.wp P a w K Q:=by
 have hl:=aU h.take s
 obtain⟨R1,E1,_⟩:=dB R h.take
 unfold gn at hop
 split at hop
 ·rename_i i off he
  have hv:=(aZ R h x).1
  rw[he]at hv
  simp only[LVR]at hv
  split at hop<;>try(simp at hop;done)
  split at hop
  ·obtain⟨v,h1,h2⟩:=ab.1 hop
   unfold bB at h1
   obtain⟨d,h3,h1⟩:=ab.1 h1
   rw[hl.1]at h1
   obtain⟨cv,h4,h5,h6⟩:=ng (R.lam i) h1 ⟨d,h3⟩
   obtain⟨y,h7,h8⟩:=qY h2
   obtain⟨h9,h10⟩:=h8 G w L s.lam.length cv h5
   refine dn R hd hk h7 (cv:=cv) ?_ h9 (fun b hb=>absurd (h10 b hb) (h6 b))
   simp only[execOp,ho,hv.2]
   exact cN h4
  ·obtain⟨q,h1,h2⟩:=ab.1 hop
   obtain⟨ha,hu,cs,hob,hx,hq⟩:=ur h1
   have hob':aD (μ++[(ad h.take s).lam]) L i= .cells cs:=by rw[←R.lev];exact bZ.trans hob
   obtain⟨cur,e,fz,hb,hoff,R2,hT,hval,hown⟩:=R1.takeOb (s1:={ad h.take s with lam:=(ad h.take s).lam.set i q.2}) (μ1:=μ) hob' hx rfl rfl (by simp) rfl (by rw[hq,←R.lev];exact ss.symm)
   have hval':LVR G w L (ad h.take s).lam.length q.1 (cur.getD off undef):=by
    rcases hval with⟨_,hval⟩|⟨h0,_⟩
    ·exact hval
    ·omega
   obtain⟨R3,E3⟩:=cx (dst:=o.dst) (v:=q.1) (cv:=cur.getD off undef) R2 (E1.weaken (fun _ h=>h) (fun b hb=>hT b hb)) (by simpa using hval') (fun b hb=>⟨(hown b hb).1,(hown b hb).2.1,(E1.grow b (hown b hb).2.2)⟩) hd
   refine de ?_ (hk _ _ μ _ w G h2 R3 E3)
   simp only[execOp,ho,hv.2]
   exact cN (BJ hb hoff ha hu)
 ·split at hop
  ·obtain⟨cs,hc,hop⟩:=ab.1 hop
   obtain⟨c,ht,hop⟩:=ab.1 hop
   have hv:=cC R (qh hc)
   simp only[VR]at hv
   obtain⟨b,off,e,hcl⟩:=hv
   obtain⟨u,h1,h2⟩:=CF (fk ht).1 (fk ht).2 hcl
   refine cB R hd hk hop ⟨u,?_,h2⟩
   simp only[execOp,ho,e]
   exact cN h1
  ·obtain⟨q,hc,hop⟩:=ab.1 hop
   have hv:=cC R (nJ hc)
   simp only[VR]at hv
   split at hop
   ·obtain⟨v,h1,hop⟩:=ab.1 hop
    unfold bB at h1
    obtain⟨d,h3,h1⟩:=ab.1 h1
    have hq:q.1<L:=by
     rw[←R.lev]
     by_cases hq:q.1<μ.length
     ·exact hq
     ·simp only[a8]at h1
      rw[List.getElem?_eq_none (by omega)]at h1
      simp[oZ]at h1
    obtain⟨cv,h4,h5,h6⟩:=ng (R.mu q.1 q.2.1 hq) h1 ⟨d,h3⟩
    obtain⟨y,h7,h8⟩:=er hop
    obtain⟨h9,h10⟩:=h8 G w L s.lam.length cv (nu v cv h5)
    refine dn R hd hk h7 (cv:=cv) ?_ h9 (fun b hb=>absurd (h10 b hb) (h6 b))
    simp only[execOp,ho,hv.2]
    exact cN h4
   ·obtain⟨q',h1,hop⟩:=ab.1 hop
    obtain⟨ha,hu,cs,hob,hx,hq'⟩:=ur h1
    have hq:q.1<μ.length:=by
     by_cases hq:q.1<μ.length
     ·exact hq
     ·simp only[a8]at hob
      rw[List.getElem?_eq_none (by omega)]at hob
      cases hob
    have hob':aD (μ++[(ad h.take s).lam]) q.1 q.2.1= .cells cs:=(bz hq).trans hob
    obtain⟨cur,e,fz,hb,hoff,R2,hT,hval,hown⟩:=R1.takeOb (s1:=ad h.take s) (μ1:=bD μ q.1 q.2.1 q'.2) hob' hx rfl rfl rfl ib.1 (by rw[hq'];exact(lM hq).symm)
    have hval':LVR G w L (ad h.take s).lam.length q'.1 (cur.getD q.2.2 undef):=by
     rcases hval with⟨h0,_⟩|⟨_,hval⟩
     ·rw[R.lev]at hq;omega
     ·exact nu _ _ hval
    obtain⟨y,h7,h8⟩:=er hop
    obtain⟨h9,h10⟩:=h8 G w L _ _ hval'
    obtain⟨R3,E3⟩:=cx (dst:=o.dst) (v:=y) (cv:=cur.getD q.2.2 undef) R2 (E1.weaken (fun _ h=>h) (fun b hb=>hT b hb)) h9 (fun b hb=>⟨(hown b (h10 b hb)).1,(hown b (h10 b hb)).2.1,(E1.grow b (hown b (h10 b hb)).2.2)⟩) hd
    refine de ?_ (hk _ _ _ _ w G h7 R3 E3)
    simp only[execOp,ho,hv.2]
    exact cN (BJ hb hoff ha hu)
 ·simp at hop
theorem MG {xs:List CV}{i:Int}{c:CV}(h:bY xs i=some c):0≤i∧xs[i.toNat]? =some c:=by
 unfold bY at h
 split at h<;>try(simp at h;done)
 rename_i h0
 exact⟨by simpa using h0,h⟩
theorem fT {i:Int}{n:Nat}(h:ex i n=true):0≤i∧i<(n:Int):=by
 simpa[ex]using h
theorem gX {c:CV}(h: ∀cs,c≠ .agg cs):c.cells=[c]:=by
 cases c<;>first|rfl|exact absurd rfl (h _)
theorem Nv {β:Type}{d:TypeDesc}{c:CV}{k:CV→Option β}{r:β}(h:jb d (.cv c) k=some r):
  ∃c':CV,k c'=some r∧(c'=c∨((∀cs,c≠ .agg cs)∧ ∀cs,c'≠ .agg cs))∧ ∀(G:Gh) (w:World) (v:Value),VR G w c v→VR G w c' v:=by
 obtain⟨c0,h0,hr⟩:=oa h
 unfold jb at h
 split at h<;>obtain⟨q,h1,h2⟩:=ab.1 h
 ·have:=g0 h1
  injection this with this
  subst this
  exact⟨_,h2,.inl rfl,fun _ _ _ h=>h⟩
 ·have:=ft h1
  injection this with this
  subst this
  exact⟨_,h2,.inl rfl,fun _ _ _ h=>h⟩
 ·have:=fv h1
  injection this with this
  subst this
  exact⟨_,h2,.inl rfl,fun _ _ _ h=>h⟩
 ·refine⟨_,h2,.inr ⟨fun cs e=> ?_,by simp⟩,fun G w v hv=>fu (L:=0) (nl:=0) h1 (by simpa[LVR]using hv)⟩
  subst e
  simp[bL]at h1
 ·simp only[dm,Option.some.injEq]at h1
  subst h1
  exact⟨_,h2,.inl rfl,fun _ _ _ h=>h⟩
theorem C0 {t:TypeId}{x ix:Operand}(ho:o.op= .indexAddr t x ix)(R:Rel G L s μ a.tmps w)(hd: ∀d,o.dst=some d→d<a.tmps.size)(hk:KOK L G w s μ a o.dst k r K)
  (hop:opt (lE (evA h s.fr ix)) (fun i=>eI P h t (evA h s.fr x) i fun v=>k v (ad h.take s) μ)=some r):o.wp P a w K Q:=by
 obtain⟨i,h1,hop⟩:=ab.1 hop
 obtain⟨kd,e1⟩:=nF h1
 have hi:=gZ R e1
 have hrunS: ∀e n b off len cap,P.underlying t=some (.slice e)→cO P e=some n→a.eval x= .slice (some ⟨b,off,none⟩) len cap→0≤i→i<(len:Int)→
   (execOp a.eval o).run P w= .ok (.value (.pointer (some ⟨b,off+i.toNat*n,none⟩))) w:=by
  intro e n b off len cap hu hn ea h0 hlt
  simp only[execOp,ho,ea,hi]
  refine cN ?_
  simp[Instr.indexAt,asIntOf,run_underlying hu,h0,hlt,dp hn,d8]
 have hrunA: ∀e n b off len,P.underlying t=some (.array len e)→cO P e=some n→a.eval x= .pointer (some ⟨b,off,none⟩)→0≤i→i<(len:Int)→
   (execOp a.eval o).run P w= .ok (.value (.pointer (some ⟨b,off+i.toNat*n,none⟩))) w:=by
  intro e n b off len hu hn ea h0 hlt
  simp only[execOp,ho,ea,hi]
  refine cN ?_
  simp[Instr.indexAt,Instr.sureAddr,asIntOf,run_underlying hu,h0,hlt,dp hn,d8]
 have hsl: ∀xs e n,P.underlying t=some (.slice e)→cO P e=some n→VR G w (.sl xs) (a.eval x)→
   (opt (bY xs i) fun c=>f7 P e c fun c=>aB (Nat.beq c.cells.length n) (k (.cv (.view c.cells)) (ad h.take s) μ))=some r→o.wp P a w K Q:=by
  intro xs e n hu hn hv hop
  obtain⟨c,hc,hop⟩:=ab.1 hop
  obtain⟨h0,hget⟩:=MG hc
  simp only[VR]at hv
  obtain⟨A,len,cap,e2,rfl,hle,hx⟩:=hv
  have hlt:i.toNat<xs.length:=(List.getElem?_eq_some_iff.1 hget).1
  rcases hx with hx|⟨b,off,sz,rfl,hs,hl⟩
  ·omega
  have hcl:=zP hl i.toNat c hget
  have hsc:c.cells.length=sz:=hs c (List.mem_of_getElem? hget)
  have key: ∃c':CV,aB (Nat.beq c'.cells.length n) (k (.cv (.view c'.cells)) (ad h.take s) μ)=some r∧c'.cells.length=sz∧CL G w b (off+i.toNat*sz) c'.cells:=by
   unfold f7 io at hop
   split at hop
   ·obtain⟨cs,hag,hop1⟩:=ab.1 hop
    obtain⟨cs',hop2,hf⟩:=jS hop1
    have:=nI hag
    injection this with this
    subst this
    exact⟨_,hop2,by simp only[CV.cells]at hsc ⊢; rw[hf.1];exact hsc,by simp only[CV.cells]at hcl ⊢; exact hf.CL hcl⟩
   ·split at hop<;>try(simp at hop;done)
    obtain⟨c',hop1,hcase,hr⟩:=Nv hop
    rcases hcase with rfl|⟨n1,n2⟩
    ·exact⟨c',hop1,hsc,hcl⟩
    ·refine⟨c',hop1,?_,?_⟩
     ·rw[gX n1]at hsc
      rw[gX n2];exact hsc
     ·rw[gX n1]at hcl
      rw[gX n2]
      simp only[CL,and_true]at hcl ⊢
      obtain⟨v,a1,a2,a3⟩:=hcl
      exact⟨v,a1,a2,hr G w v a3⟩
  obtain⟨c',hop1,hlc,hcl'⟩:=key
  obtain⟨hlen,hop2⟩:=aI.1 hop1
  have hlen:=Nat.eq_of_beq_eq_true hlen
  have hsn:sz=n:=by omega
  subst hsn
  exact cB R hd hk hop2 ⟨_,hrunS e sz b off xs.length cap hu hn e2 h0 (by omega),by simp only[VR];exact⟨b,_,rfl,hcl'⟩⟩
 unfold eI at hop
 split at hop
 ·rename_i e hu
  obtain⟨n,hn,hop⟩:=ab.1 hop
  split at hop
  ·rename_i id off len he
   obtain⟨hr,hop⟩:=aI.1 hop
   obtain⟨h0,hlt⟩:=fT hr
   have hv:=(aZ R h x).1
   rw[he]at hv
   simp only[LVR]at hv
   obtain⟨hid,cap,cur,e',fz,hv,_⟩:=hv
   exact dn R hd hk hop (hrunS e n _ _ len cap hu hn hv h0 hlt) (by simp only[LVR];exact⟨hid,trivial⟩) (fun b hb=>by simp[aE]at hb)
  ·rename_i xs he
   have hv:=(aZ R h x).1
   rw[he]at hv
   simp only[LVR]at hv
   exact hsl xs e n hu hn (gi hv) hop
  ·split at hop
   ·obtain⟨xs,hg,hop⟩:=ab.1 hop
    exact hsl xs e n hu hn (fu hg (aZ R h x).1) hop
   ·obtain⟨q,hg,hop⟩:=ab.1 hop
    obtain⟨hr,hop⟩:=aI.1 hop
    obtain⟨h0,hlt⟩:=fT hr
    have hv:=cC R (Ls hg)
    simp only[VR]at hv
    obtain⟨hid,cap,cur,e',fz,hv,_⟩:=hv
    exact cB R hd hk hop ⟨_,hrunS e n _ _ _ cap hu hn hv h0 hlt,by simp only[VR];exact⟨hid,trivial⟩⟩
  ·simp at hop
 ·rename_i len e hu
  obtain⟨n,hn,hop⟩:=ab.1 hop
  split at hop
  ·rename_i id off he
   obtain⟨hr,hop⟩:=aI.1 hop
   obtain⟨h0,hlt⟩:=fT hr
   have hv:=(aZ R h x).1
   rw[he]at hv
   simp only[LVR]at hv
   exact dn R hd hk hop (hrunA e n _ _ len hu hn hv.2 h0 hlt) (by simp only[LVR];exact⟨hv.1,trivial⟩) (fun b hb=>by simp[aE]at hb)
  ·split at hop
   ·obtain⟨cs,hg,hop⟩:=ab.1 hop
    obtain⟨hr,hop⟩:=aI.1 hop
    obtain⟨hle,hop⟩:=aI.1 hop
    obtain⟨h0,hlt⟩:=fT hr
    have hv:=cC R (qh hg)
    simp only[VR]at hv
    obtain⟨b,off,e2,hcl⟩:=hv
    exact cB R hd hk hop ⟨_,hrunA e n b off len hu hn e2 h0 hlt,by simp only[VR];exact⟨b,_,rfl,ov _ hcl⟩⟩
   ·obtain⟨q,hg,hop⟩:=ab.1 hop
    obtain⟨hr,hop⟩:=aI.1 hop
    obtain⟨h0,hlt⟩:=fT hr
    have hv:=cC R (nJ hg)
    simp only[VR]at hv
    exact cB R hd hk hop ⟨_,hrunA e n _ _ len hu hn hv.2 h0 hlt,by simp only[VR];exact⟨hv.1,trivial⟩⟩
  ·simp at hop
 ·simp at hop
end
end Go.Abs
set_option linter.unusedVariables false
set_option linter.unusedSimpArgs false
namespace Go.Abs
open Go
section
variable {P:Program}{ρ:Rho}{α:Type}{L:Nat}{G:Gh}{w:World}{s:S}{μ:Mu}{a:Act}{o:Oper}{h:OpHint}{k:LV→S→Mu→Option α}{p:CV→S→Mu→Option α}{r:α}{K:Act→World→Prop}{Q:Exit→Act→World→Prop}
theorem Qi {t:TypeId}{x ix:Operand}(ho:o.op= .index t x ix)(R:Rel G L s μ a.tmps w)(hd: ∀d,o.dst=some d→d<a.tmps.size)(hk:KOK L G w s μ a o.dst k r K)
  (hop:opt (lE (evA h s.fr ix)) (fun i=>jX P t (evA h s.fr x) i fun v=>k v (ad h.take s) μ)=some r):o.wp P a w K Q:=by
 obtain⟨i,h1,hop⟩:=ab.1 hop
 obtain⟨kd,e1⟩:=nF h1
 have hi:=gZ R e1
 unfold jX at hop
 split at hop
 ·rename_i hu
  obtain⟨l,h2,hop⟩:=ab.1 hop
  obtain⟨b,h3,hop⟩:=ab.1 hop
  have hv:=cC R (fv h2)
  simp only[VR]at hv
  refine cB R hd hk hop ⟨.int .u8 (b.toNat:Int),?_,by simp[VR]⟩
  simp only[execOp,ho,hv,hi]
  exact cN (MQ hu h3)
 ·rename_i len e hu
  split at hop<;>try(simp at hop;done)
  obtain⟨cs,h2,hop⟩:=ab.1 hop
  obtain⟨n,hn,hop⟩:=ab.1 hop
  obtain⟨hr,hop⟩:=aI.1 hop
  obtain⟨c,hc,hop⟩:=ab.1 hop
  obtain⟨c',hop,hr'⟩:=nr hop
  obtain⟨h0,hlt⟩:=fT hr
  have hv:=cC R (nI h2)
  simp only[VR]at hv
  obtain⟨vs,e2,hl⟩:=hv
  obtain⟨u,h3,h4⟩:=sT (P:=P) (fk hc).1 (fk hc).2 hl
  refine cB R hd hk hop ⟨u,?_,hr' G w 0 0 u (by simpa[LVR]using h4)⟩
  simp only[execOp,ho,e2,hi]
  refine cN ?_
  simp only[Instr.index,asIntOf,Sem.run_bind,Sem.run_pure,Result.andThen_ok,run_underlying hu,if_pos (And.intro h0 hlt),dp hn,h3]
 ·simp at hop
theorem Qk {t:TypeId}{x:Operand}{lo hi:Option Operand}(ho:o.op= .slice t x lo hi none)(R:Rel G L s μ a.tmps w)(hd: ∀d,o.dst=some d→d<a.tmps.size)(hk:KOK L G w s μ a o.dst k r K)
  (hop:gz P t (evA h s.fr x) lo hi (evA h s.fr) (fun v=>k v (ad h.take s) μ)=some r):o.wp P a w K Q:=by
 have hrun: ∀{cv:Value},(Instr.sliceAt t (a.eval x) (lo.map a.eval) (hi.map a.eval) none).run P w= .ok cv w→(execOp a.eval o).run P w= .ok (.value cv) w:=by
  intro cv h
  simp only[execOp,ho]
  exact cN (by simpa using h)
 unfold gz at hop
 split at hop
 ·rename_i hu
  obtain⟨l,h2,hop⟩:=ab.1 hop
  obtain⟨m,hm,hop⟩:=gW R hop
  obtain⟨n,hn,hop⟩:=gW R hop
  obtain⟨q,hq,hop⟩:=ab.1 hop
  have hv:=cC R (fv h2)
  simp only[VR]at hv
  refine cB R hd hk hop ⟨.string ⟨⟨q⟩⟩,hrun ?_,by simp[VR]⟩
  rw[hv]
  exact CB hu hq hm hn
 ·rename_i e hu
  obtain⟨sz,hsz,hop⟩:=ab.1 hop
  have hsl: ∀xs,VR G w (.sl xs) (a.eval x)→(cV (evA h s.fr) lo 0 fun m=>cV (evA h s.fr) hi (xs.length:Int) fun n=>aB (jF sz m xs) (opt (dk xs m n) fun q=>k (.cv (.sl q)) (ad h.take s) μ))=some r→o.wp P a w K Q:=by
   intro xs hv hop
   obtain⟨m,hm,hop⟩:=gW R hop
   obtain⟨n,hn,hop⟩:=gW R hop
   obtain⟨hg,hop⟩:=aI.1 hop
   obtain⟨q,hq,hop⟩:=ab.1 hop
   obtain⟨u,h3,h4⟩:=Ep hu hsz hv hq hg hm hn
   exact cB R hd hk hop ⟨u,hrun h3,h4⟩
  split at hop
  ·obtain⟨xs,h2,hop⟩:=ab.1 hop
   exact hsl xs (fu h2 (aZ R h x).1) hop
  ·rename_i xs he
   have hv:=(aZ R h x).1
   rw[he]at hv
   simp only[LVR]at hv
   exact hsl xs (gi hv) hop
  ·rename_i id off len he
   obtain⟨m,hm,hop1⟩:=gW R hop
   obtain⟨n,hn,hop2⟩:=gW R hop1
   obtain⟨hg,hop3⟩:=aI.1 hop2
   clear hop hop1 hop2
   simp only[Bool.and_eq_true,decide_eq_true_eq]at hg
   obtain⟨⟨hm0,h0⟩,hle⟩:=hg
   rw[hm0]at hm
   have hv:=(aZ R h x).1
   rw[he]at hv
   simp only[LVR]at hv
   obtain⟨hid,cap,cur,e',fz,hv,hlc,hcm,hb,hsize⟩:=hv
   have hbs:=gP (P:=P) (w:=w) (isS:=true) hlc (Int.le_refl 0) h0 hle hm hn
   refine dn R hd hk hop3 (cv:= .slice (some ⟨G.β L id,off,none⟩) n.toNat cap) (hrun ?_) ?_ (fun b hb=>by simp[aE]at hb)
   ·rw[hv]
    simp only[Instr.sliceAt,Sem.run_bind,run_underlying hu,Result.andThen_ok,Instr.slice,hbs,dp hsz,Sem.run_pure]
    by_cases hc:cap=0
    ·simp[hc]
    ·simp[hc,d8]
   ·simp only[LVR]
    exact⟨hid,cap,cur,e',fz,rfl,by omega,hcm,hb,hsize⟩
  ·rename_i xs he
   obtain⟨m,hm,hop1⟩:=gW R hop
   obtain⟨n,hn,hop2⟩:=gW R hop1
   obtain⟨hg,hop3⟩:=aI.1 hop2
   clear hop hop1 hop2
   simp only[Bool.and_eq_true,decide_eq_true_eq]at hg
   obtain⟨⟨hm0,h0⟩,hle⟩:=hg
   rw[hm0]at hm
   obtain⟨hv,how⟩:=aZ R h x
   rw[he]at hv how
   simp only[LVR]at hv
   rcases hv with⟨h1,h2⟩|⟨b,cap,cur,e',hv,hb,h1,h2,h3,h4,h5⟩
   ·rw[h1]at hle
    simp only[List.length_nil]at hle
    omega
   have hbs:=gP (P:=P) (w:=w) (isS:=true) h1 (Int.le_refl 0) h0 (Int.le_of_lt hle) hm hn
   refine dn R hd hk hop3 (cv:= .slice (some ⟨b,0,none⟩) n.toNat cap) (hrun ?_) ?_ (fun b' hb'=>how b' (by rw[hv];simpa[aE]using hb'))
   ·rw[hv]
    simp only[Instr.sliceAt,Sem.run_bind,run_underlying hu,Result.andThen_ok,Instr.slice,hbs,dp hsz,Sem.run_pure]
    by_cases hc:cap=0
    ·simp[hc]
    ·simp[hc,d8]
   ·simp only[LVR]
    refine .inr ⟨b,cap,cur,e',by rw[List.length_take,Nat.min_eq_left (by omega)],hb,by rw[List.length_take];omega,h2,h3,h4,fun j y hy=>h5 j y ?_⟩
    rw[List.getElem?_take]at hy
    split at hy
    ·exact hy
    ·cases hy
  ·simp at hop
 ·simp at hop
theorem Tn {x:Operand}{t:TypeId}{c:Call}(ho:o.op= .call c)(hc:c.callee= .builtin .len)(hx:c.args.toList=[x])(ht:c.argTypes.toList=[t])(R:Rel G L s μ a.tmps w)(hd: ∀d,o.dst=some d→d<a.tmps.size)(hk:KOK L G w s μ a o.dst k r K)
  (hop:opt (Hy P t (evA h s.fr x)) (fun n=>k (.cv (.v (.int .i64 n))) (ad h.take s) μ)=some r):o.wp P a w K Q:=by
 obtain⟨n,h1,h2⟩:=ab.1 hop
 have hx':c.args= #[x]:=by cases ha:c.args;simp_all
 have ht':c.argTypes= #[t]:=by cases ha:c.argTypes;simp_all
 refine cB R hd hk h2 ⟨.int .i64 n,?_,by simp[VR]⟩
 have:=NN (ty:=o.type) h1 (aZ R h x).1
 simp only[execOp,ho,resolve,hc,hx',ht',Sem.run_bind,Sem.run_pure,Result.andThen_ok,invoke,builtin,List.map_toArray,List.map_cons,List.map_nil]
 rw[this];rfl
theorem SM (x y:Int):(if y>x then y else x)=max x y:=by
 rw[Int.max_def];split<;>split<;>omega
theorem SN (x y:Int):(if y<x then y else x)=min x y:=by
 rw[Int.min_def];split<;>split<;>omega
theorem To {x y:Operand}{c:Call}(ho:o.op= .call c)(hc:c.callee= .builtin .max)(hx:c.args.toList=[x,y])(R:Rel G L s μ a.tmps w)(hd: ∀d,o.dst=some d→d<a.tmps.size)(hk:KOK L G w s μ a o.dst k r K)
  (hop:opt (aF .i64 (evA h s.fr x)) (fun m=>opt (aF .i64 (evA h s.fr y)) fun n=>k (.cv (.v (.int .i64 (max m n)))) (ad h.take s) μ)=some r):o.wp P a w K Q:=by
 obtain⟨m,h1,hop⟩:=ab.1 hop
 obtain⟨n,h2,hop⟩:=ab.1 hop
 have hx':c.args= #[x,y]:=by cases ha:c.args;simp_all
 refine cB R hd hk hop ⟨.int .i64 (max m n),?_,by simp[VR]⟩
 simp only[execOp,ho,resolve,hc,hx',Sem.run_bind,Sem.run_pure,Result.andThen_ok,invoke,builtin,List.map_toArray,List.map_cons,List.map_nil,gZ R (g0 h1),gZ R (g0 h2)]
 simp only[Builtin.max_,List.foldlM_cons,List.foldlM_nil,Builtin.max2,Sem.run_bind,Sem.run_pure,Result.andThen_ok,SM]
theorem Tp {x y:Operand}{c:Call}(ho:o.op= .call c)(hc:c.callee= .builtin .min)(hx:c.args.toList=[x,y])(R:Rel G L s μ a.tmps w)(hd: ∀d,o.dst=some d→d<a.tmps.size)(hk:KOK L G w s μ a o.dst k r K)
  (hop:opt (aF .i64 (evA h s.fr x)) (fun m=>opt (aF .i64 (evA h s.fr y)) fun n=>k (.cv (.v (.int .i64 (min m n)))) (ad h.take s) μ)=some r):o.wp P a w K Q:=by
 obtain⟨m,h1,hop⟩:=ab.1 hop
 obtain⟨n,h2,hop⟩:=ab.1 hop
 have hx':c.args= #[x,y]:=by cases ha:c.args;simp_all
 refine cB R hd hk hop ⟨.int .i64 (min m n),?_,by simp[VR]⟩
 simp only[execOp,ho,resolve,hc,hx',Sem.run_bind,Sem.run_pure,Result.andThen_ok,invoke,builtin,List.map_toArray,List.map_cons,List.map_nil,gZ R (g0 h1),gZ R (g0 h2)]
 simp only[Builtin.min_,List.foldlM_cons,List.foldlM_nil,Builtin.min2,Sem.run_bind,Sem.run_pure,Result.andThen_ok,SN]
theorem ky: ∀{xs:List CV} {l:List UInt8},bk xs=some l→ ∃ns:List Int,xs=ns.map (fun n=> .v (.int .u8 n))∧l=ns.map fun n=>UInt8.ofNat n.toNat
 |[],l,h=>by simp only[bk,Option.some.injEq]at h;subst h;exact⟨[],rfl,rfl⟩
 |c::r,l,h=>by
  unfold bk at h
  split at h<;>try(simp at h;done)
  ·rename_i e;cases e
  ·rename_i n r' e
   injection e with e1 e2
   subst e1;subst e2
   split at h<;>try(simp at h;done)
   obtain⟨l',h1,h2⟩:=ab.1 h
   simp only[Option.some.injEq]at h2
   subst h2
   obtain⟨ns,h3,h4⟩:=ky h1
   exact⟨n::ns,by rw[h3];rfl,by rw[h4];rfl⟩
theorem Hk (ns:List Int): ∀(acc:List UInt8),ns.foldl (fun r n=>r.push (UInt8.ofNat n.toNat)) (⟨⟨acc⟩⟩:ByteArray)=⟨⟨acc++ns.map fun n=>UInt8.ofNat n.toNat⟩⟩:=by
 induction ns with
 |nil=>intro acc;simp
 |cons n ns ih=>
  intro acc
  simp only[List.foldl_cons,List.map_cons]
  have:(⟨⟨acc⟩⟩:ByteArray).push (UInt8.ofNat n.toNat)=⟨⟨acc++[UInt8.ofNat n.toNat]⟩⟩:=by
   apply ByteArray.ext
   simp[ByteArray.push]
  rw[this,ih]
  simp
theorem l0 {A:Addr}{len cap:Nat}{ns:List Int}(hl:len=ns.length)(hc: ∀(j:Nat) n,ns[j]? =some n→w.cell? (A.add j)=some (.int .u8 n)):
  (Conv.bytesToString (.slice (some A) len cap)).run P w= .ok (.string ⟨⟨ns.map fun n=>UInt8.ofNat n.toNat⟩⟩) w:=by
 have h1:(loadCells A len).run P w= .ok (ns.map (Value.int .u8)).toArray w:=by
  have := run_loadCells_list (P := P) w A (ns.map (Value.int .u8)) (fun j v hv => by
   simp only[List.getElem?_map,Option.map_eq_some_iff]at hv
   obtain⟨n,hn,rfl⟩:=hv
   exact hc j n hn)
  rw[hl]
  simpa using this
 rw[run_bytesToString w A len cap ns h1]
 have:=Hk ns []
 simp only[List.nil_append]at this
 rw[←this]
 rfl
theorem Ke {src dst:TypeId}{x:Operand}(ho:o.op= .convert src dst x)(R:Rel G L s μ a.tmps w)(hd: ∀d,o.dst=some d→d<a.tmps.size)(hk:KOK L G w s μ a o.dst k r K)
  (hop:cZ P h src dst (evA h s.fr x) (ad h.take s) μ k=some r)
  (hsb : ∀ e l, P.underlying dst = some (.slice e) → P.underlying e = some (.int .u8) → P.underlying src = some .string → evA h s.fr x = LV.str l → bd l.length = true →
   (match h.arr with
    |true=>k (.lsl (ad h.take s).lam.length 0 l.length) {ad h.take s with lam:=(ad h.take s).lam++[.arr 1 (l.map fun b=> .v (.int .u8 (b.toNat:Int)))]} μ
    |false=>k (.cv (.sl (l.map fun b=> .v (.int .u8 (b.toNat:Int))))) (ad h.take s) μ)=some r→o.wp P a w K Q):o.wp P a w K Q:=by
 have hl:=aU h.take s
 have hrun: ∀{cv:Value},(convert src dst (a.eval x)).run P w= .ok cv w→(execOp a.eval o).run P w= .ok (.value cv) w:=by
  intro cv h
  simp only[execOp,ho]
  exact cN h
 unfold cZ at hop
 split at hop
 ·rename_i ik hu
  split at hop<;>try(simp at hop;done)
  rename_i ik' hu'
  obtain⟨n,h1,hop⟩:=ab.1 hop
  obtain⟨kd,e1⟩:=nF h1
  refine cB R hd hk hop ⟨.int ik (ik.wrap n),hrun ?_,by simp[VR]⟩
  rw[gZ R e1]
  simp[convert,run_underlying hu,run_underlying hu',Conv.intToInt]
 ·rename_i hu
  split at hop
  ·rename_i hu'
   obtain⟨l,h1,hop⟩:=ab.1 hop
   have hv:=cC R (fv h1)
   simp only[VR]at hv
   refine cB R hd hk hop ⟨.string ⟨⟨l⟩⟩,hrun ?_,by simp[VR]⟩
   rw[hv]
   simp[convert,run_underlying hu,run_underlying hu']
  ·rename_i e hu'
   split at hop<;>try(simp at hop;done)
   rename_i hue
   have hconv: ∀A len cap,a.eval x= .slice A len cap→convert src dst (a.eval x)=convert src dst (.slice A len cap):=fun A len cap e=>by rw[e]
   have hcv: ∀A len cap,(convert src dst (.slice A len cap)).run P w=(Conv.bytesToString (.slice A len cap)).run P w:=by
    intro A len cap
    simp[convert,run_underlying hu,run_underlying hu',run_underlying hue]
   split at hop
   ·rename_i id off len he
    split at hop<;>try(simp at hop;done)
    rename_i sz cs hob
    obtain⟨hle,hop⟩:=aI.1 hop
    have hle:=Nat.le_of_ble_eq_true hle
    obtain⟨l,hb,hop⟩:=ab.1 hop
    obtain⟨ns,h1,h2⟩:=ky hb
    have hv:=(aZ R h x).1
    rw[he]at hv
    simp only[LVR]at hv
    obtain⟨hid,cap,cur,e',fz,hv,hlc,hcm,hbk,hsize⟩:=hv
    have hobr:=R.lam id
    rw[hl.1]at hob
    rw[hob]at hobr
    simp only[ObR]at hobr
    obtain⟨_,cur2,e2,fz2,hbk2,_,_,hsz,hr⟩:=hobr
    have hlen:ns.length=len:=by
     have:=congrArg List.length h1
     simp only[List.length_take,List.length_drop,List.length_map]at this
     omega
    refine cB R hd hk hop ⟨.string ⟨⟨l⟩⟩,hrun ?_,by simp[VR]⟩
    rw[hv,hcv,h2]
    refine l0 hlen.symm fun j n hn=> ?_
    have hj:j<len:=by have:=(List.getElem?_eq_some_iff.1 hn).1;omega
    rw[d8,cell_of_heap hbk2 (by omega)]
    have hx:cs[off+j]? =some (.v (.int .u8 n)):=by
     have e3:((cs.drop off).take len)[j]? =some (.v (.int .u8 n)):=by rw[h1];simp[hn]
     rw[List.getElem?_take_of_lt hj,List.getElem?_drop]at e3
     exact e3
    have:=hr (off+j) _ hx
    simp only[VR]at this
    rw[this]
   ·obtain⟨xs,hg,hop⟩:=ab.1 hop
    obtain⟨l,hb,hop⟩:=ab.1 hop
    obtain⟨ns,rfl,rfl⟩:=ky hb
    have hv:=fu hg (aZ R h x).1
    simp only[VR]at hv
    obtain⟨A,len,cap,e1,e2,_,hx⟩:=hv
    have hlen:len=ns.length:=by simpa using e2
    refine cB R hd hk hop ⟨.string ⟨⟨ns.map fun n=>UInt8.ofNat n.toNat⟩⟩,hrun ?_,by simp[VR]⟩
    rw[e1,hcv]
    cases A with
    |none=>
     have:ns=[]:=by
      rcases hx with hx|⟨b,off,sz,hA,_⟩
      ·exact List.eq_nil_of_length_eq_zero (by omega)
      ·cases hA
     subst this
     rfl
    |some A=>
     refine l0 hlen fun j n hn=> ?_
     have hj:j<ns.length:=(List.getElem?_eq_some_iff.1 hn).1
     rcases hx with hx|⟨b,off,sz,hA,hs,hel⟩
     ·omega
     ·injection hA with hA
      subst hA
      have hcl:=zP hel j (.v (.int .u8 n)) (by simp[hn])
      have hsz:sz=1:=by
       have:=hs (.v (.int .u8 n)) (by simp;exact List.mem_of_getElem? hn)
       simpa[CV.cells]using this.symm
      subst hsz
      simp only[CV.cells,CL,and_true]at hcl
      obtain⟨v,h3,_,h4⟩:=hcl
      simp only[VR]at h4
      subst h4
      rw[d8]
      simpa using h3
  ·simp at hop
 ·rename_i e hu
  split at hop<;>try(simp at hop;done)
  rename_i hu'
  split at hop<;>try(simp at hop;done)
  rename_i hue
  obtain⟨l,h1,hop⟩:=ab.1 hop
  obtain⟨hsm,hop⟩:=aI.1 hop
  exact hsb e l hu hue hu' (fv h1) hsm hop
 ·simp at hop
end
end Go.Abs
set_option linter.unusedVariables false
set_option linter.unusedSimpArgs false
namespace Go.Abs
open Go
theorem lT (cur:Array Value):d7 cur (0,0):=fun j _ h=>by simp at h
section
variable {P:Program}{ρ:Rho}{α:Type}{L:Nat}{G:Gh}{w:World}{s:S}{μ:Mu}{a:Act}{o:Oper}{h:OpHint}{k:LV→S→Mu→Option α}{p:CV→S→Mu→Option α}{r:α}{K:Act→World→Prop}{Q:Exit→Act→World→Prop}
theorem Cw {G:Gh}{L m b kk:Nat}{pu:Bool}: ∀l,l<L→(∀i,(G.setL L m b kk pu).β l i=G.β l i∧(G.setL L m b kk pu).sz l i=G.sz l i)∧(G.setL L m b kk pu).n l=G.n l:=by
 intro l hl
 have: ¬l=L:=by omega
 simp[Gh.setL,this]
theorem jd {G0:Gh}{w0:World}{T0:Nat→Prop}(R:Rel G L s μ a.tmps w)(E:Ext L T0 G0 w0 G w (az G w s μ a.tmps))(hd: ∀d,o.dst=some d→d<a.tmps.size)
  {cur:Array Value} {e:TypeId} {ob:Ob} {kk:Nat} {fz:Nat×Nat} (hfz:d7 cur fz)
  (hob : (∃ cs, ob = .cells cs ∧ cs.length ≤ cur.size ∧ ∀ j x, cs[j]? = some x → LVR G w L s.lam.length x (cur.getD j undef)) ∨
   (∃cs,ob= .arr kk cs∧cs.length≤cur.size∧ ∀j x,cs[j]? =some x→VR G w x (cur.getD j undef)))
  (hown: ∀cs j b,ob= .cells cs→cF cs cur j b→((∀l,¬ax G w s.fr a.tmps (μ++[s.lam]) l b)∧(∀lev i,aK (aD (μ++[s.lam]) lev i)→G.β lev i≠b)∧ ∀j',cF cs cur j' b→j'=j)∧(T0 b∨w0.heap.size≤b))
  {v:LV} {cv:Value} (hv: ∀G1 w1,G1=G.setL L s.lam.length w.heap.size kk s.pushed→w1=w.alloc (.cells cur e fz)→LVR G1 w1 L (s.lam.length+1) v cv) (hno: ∀b,¬aE v cv b):
  ∃G1,Rel G1 L ({s with lam:=s.lam++[ob]}.put o.dst v) μ (a.put o.dst cv).tmps (w.alloc (.cells cur e fz))∧
   Ext L T0 G0 w0 G1 (w.alloc (.cells cur e fz)) (az G1 (w.alloc (.cells cur e fz)) ({s with lam:=s.lam++[ob]}.put o.dst v) μ (a.put o.dst cv).tmps):=by
 obtain⟨R1,hle,hT,_⟩:=R.newLocal hfz (e:=e) hob fun cs j b h1 h2=>(hown cs j b h1 h2).1
 have E1:Ext L T0 G0 w0 (G.setL L s.lam.length w.heap.size kk s.pushed) (w.alloc (.cells cur e fz)) (az (G.setL L s.lam.length w.heap.size kk s.pushed) (w.alloc (.cells cur e fz)) {s with lam:=s.lam++[ob]} μ a.tmps):=by
  refine⟨E.le.trans hle,E.os,E.tape,E.output,Nat.le_trans E.size (by simp),fun b hb hn=> ?_,fun b hb=> ?_,fun l hl=> ?_⟩
  ·obtain⟨h1,h2⟩:=E.keep b hb hn
   have hlt:b<w.heap.size:=Nat.lt_of_lt_of_le hb E.size
   refine⟨(heap_alloc_old w _ hlt).trans h1,?_⟩
   rw[←h2]
   have:b≠w.heap.size:=by omega
   simp[Gh.setL,this]
  ·rcases hT b hb with h1|rfl|⟨cs,j,h1,h2⟩
   ·exact E.grow b h1
   ·exact .inr E.size
   ·exact(hown cs j b h1 h2).2
  ·obtain⟨h1,h2⟩:=E.lev l hl
   obtain⟨h3,h4⟩:=Cw (G:=G) (m:=s.lam.length) (b:=w.heap.size) (kk:=kk) (pu:=s.pushed) l hl
   exact⟨fun i=>⟨(h3 i).1.trans (h1 i).1,(h3 i).2.trans (h1 i).2⟩,h4.trans h2⟩
 obtain⟨R2,E2⟩:=cx (dst:=o.dst) (v:=v) (cv:=cv) R1 E1 (by simpa using hv _ _ rfl rfl) (fun b hb=>absurd hb (hno b)) hd
 exact⟨_,R2,E2⟩
theorem FK {cur:Array Value}{e:TypeId}{fz:Nat×Nat}{kk:Nat}: ∀G1 w1,G1=G.setL L s.lam.length w.heap.size kk s.pushed→w1=w.alloc (.cells cur e fz)→
  LVR G1 w1 L (s.lam.length+1) (.loc s.lam.length 0) (.pointer (some ⟨w.heap.size,0,none⟩)):=by
 intro G1 w1 hG hw
 subst hG
 simp only[LVR]
 exact⟨by omega,by simp[Gh.setL]⟩
theorem GT {b:Bool}{n:Nat}{cur:Array Value}{e:TypeId}{fz:Nat×Nat}{kk:Nat}(hn:cur.size=n): ∀G1 w1,G1=G.setL L s.lam.length w.heap.size kk s.pushed→w1=w.alloc (.cells cur e fz)→
  LVR G1 w1 L (s.lam.length+1) (rQ b s.lam.length e n) (.pointer (some ⟨w.heap.size,0,none⟩)):=by
 intro G1 w1 hG hw
 cases b with
 |false=>exact FK G1 w1 hG hw
 |true=>
  subst hG
  subst hw
  simp only[LVR,rQ]
  have e1:(G.setL L s.lam.length w.heap.size kk s.pushed).β L s.lam.length=w.heap.size:=by simp[Gh.setL]
  exact⟨by omega,by rw[e1],cur,fz,by rw[e1];exact Array.getElem?_push_size,hn⟩
theorem yG {cs:List CV}{cur:Array Value}(hl:VRL G w cs cur.toList){nl:Nat}:(cs.map LV.cv).length≤cur.size∧ ∀j x,(cs.map LV.cv)[j]? =some x→LVR G w L nl x (cur.getD j undef):=by
 obtain⟨e,hg⟩:=dU hl
 refine⟨by simp at e ⊢; omega,fun j x hx=> ?_⟩
 simp only[List.getElem?_map,Option.map_eq_some_iff]at hx
 obtain⟨c,hc,rfl⟩:=hx
 obtain⟨v,hv,hr⟩:=hg j c hc
 simp only[LVR]
 have:cur.getD j undef=v:=by
  rw[Array.getElem?_toList]at hv
  simp[Array.getD_eq_getD_getElem?,hv]
 rw[this];exact hr
theorem tW {cs:List CV}{cur:Array Value}{j b:Nat}: ¬cF (cs.map LV.cv) cur j b:=by
 rintro⟨x,hx,ho⟩
 simp only[List.getElem?_map,Option.map_eq_some_iff]at hx
 obtain⟨c,_,rfl⟩:=hx
 simp[aE]at ho
theorem Qe {e:TypeId}(ho:o.op= .alloc e)(R:Rel G L s μ a.tmps w)(hd: ∀d,o.dst=some d→d<a.tmps.size)(hk:KOK L G w s μ a o.dst k r K)
  (hop:opt (zeroCells P e) (fun cs=>k (rQ h.cell (ad h.take s).lam.length e cs.length) {ad h.take s with lam:=(ad h.take s).lam++[.cells (cs.map .cv)]} μ)=some r):o.wp P a w K Q:=by
 obtain⟨cs,h1,hop⟩:=ab.1 hop
 obtain⟨R1,E1,_⟩:=dB R h.take
 obtain⟨z,i,hi,hz,hrun,hl⟩:=jh (P:=P) (G:=G) (w:=w) h1
 obtain⟨G1,R2,E2⟩:=jd (o:=o) (kk:=0) (e:=e) R1 E1 hd (lT z.cells) (ob:= .cells (cs.map .cv)) (.inl ⟨_,rfl,yG hl⟩)
  (fun cs' j b he hc=>by injection he with he;subst he;exact absurd hc tW) (GT (by have:=VRL_len hl;simpa using this.symm)) (fun b hb=>by cases h.cell<;>simp[rQ,aE]at hb)
 refine de ?_ (hk _ _ μ _ _ G1 hop R2 E2)
 simp only[execOp,ho]
 refine cN ?_
 simp[Instr.alloc,hrun,newVar,newRow]
theorem gS {x:LV}{v:Value}{nl:Nat}{cs:List LV}(h:x.cells=some cs)(hv:LVR G w L nl x v):
  cs.length=v.cells.size∧(∀j y,cs[j]? =some y→LVR G w L nl y (v.cells.getD j undef))∧(∀u∈v.cells.toList,u.oneCell'=true)∧
  (∀j b,cF cs v.cells j b→j=0∧aE x v b):=by
 have one: ∀(y:LV),y=x→cs=[y]→v.oneCell'=true→cs.length=v.cells.size∧(∀j y,cs[j]? =some y→LVR G w L nl y (v.cells.getD j undef))∧(∀u∈v.cells.toList,u.oneCell'=true)∧
  (∀j b,cF cs v.cells j b→j=0∧aE x v b):=by
  rintro y rfl rfl h1
  rw[zi h1]
  refine⟨rfl,fun j z hz=> ?_,by simpa using h1,?_⟩
  ·cases j with
   |zero=>simp only[List.getElem?_cons_zero,Option.some.injEq]at hz;subst hz;exact hv
   |succ j=>simp at hz
  ·rintro j b ⟨z,hz,ho⟩
   cases j with
   |zero=>simp only[List.getElem?_cons_zero,Option.some.injEq]at hz;subst hz;exact⟨rfl,ho⟩
   |succ j=>simp at hz
 unfold LV.cells at h
 split at h
 ·split at h<;>simp only[Option.some.injEq,reduceCtorEq]at h
  rename_i hs
  subst h
  simp only[LVR]at hv
  obtain⟨hl,h1⟩:=iY hs hv
  refine⟨by have:=VRL_len hl;simpa using this,(yG hl).2,h1,fun j b hc=>absurd hc tW⟩
 ·simp at h
 ·simp only[Option.some.injEq]at h
  rename_i n1 n2
  refine one x rfl h.symm ?_
  cases x<;>simp only[LVR]at hv
  ·exact absurd rfl (n1 _)
  ·rcases hv with⟨_,rfl⟩|⟨_,_,_,_,_,rfl,_⟩<;>rfl
  ·obtain⟨_,rfl⟩:=hv;rfl
  ·obtain⟨_,_,_,_,_,rfl,_⟩:=hv;rfl
  ·obtain⟨_,rfl,_⟩:=hv;rfl
  ·exact absurd rfl (n2 _)
  ·obtain⟨_,rfl⟩:=hv;rfl
  ·obtain⟨_,rfl,_⟩:=hv;rfl
  ·rcases hv with⟨_,rfl⟩|⟨_,_,_,_,rfl,_⟩<;>rfl
  ·obtain⟨_,_,rfl⟩:=hv;rfl
theorem Tm {e:TypeId}{x:Operand}(ho:o.op= .box e x)(R:Rel G L s μ a.tmps w)(hd: ∀d,o.dst=some d→d<a.tmps.size)(hk:KOK L G w s μ a o.dst k r K)
  (hop:opt (evA h s.fr x).cells (fun cs=>k (.loc (ad h.take s).lam.length 0) {ad h.take s with lam:=(ad h.take s).lam++[.cells cs]} μ)=some r):o.wp P a w K Q:=by
 obtain⟨cs,h1,hop⟩:=ab.1 hop
 obtain⟨R1,E1,hO⟩:=dB R h.take
 have hl:=aU h.take s
 obtain⟨hv,hown⟩:=aZ R h x
 obtain⟨h2,h3,h4,h5⟩:=gS h1 hv
 obtain⟨G1,R2,E2⟩:=jd (o:=o) (kk:=0) (e:=e) R1 E1 hd (lT (a.eval x).cells) (ob:= .cells cs) (.inl ⟨_,rfl,by omega,by rw[hl.1];exact h3⟩)
  (fun cs' j b he hc => by
   injection he with he
   subst he
   obtain⟨hj,ho'⟩:=h5 j b hc
   obtain⟨t,ht,hot⟩:=hown b ho'
   refine⟨⟨fun l hl'=> ?_,fun lev i hlv=> ?_,fun j' hc'=>by rw[(h5 j' b hc').1,hj]⟩,.inl (.inl ⟨.fr t,hot⟩)⟩
   ·obtain⟨a1,a2⟩:=hO l b hl'
    exact a1 t ht (R.own l (.fr t) b a2 hot)
   ·rw[hl.1]at hlv
    exact R.apart (.fr t) b lev i hot hlv) FK (fun b hb=>by simp[aE]at hb)
 refine de ?_ (hk _ _ μ _ _ G1 hop R2 E2)
 simp only[execOp,ho]
 refine cN ?_
 simp[Instr.box,newVar,newRow]
end
end Go.Abs
set_option linter.unusedVariables false
set_option linter.unusedSimpArgs false
namespace Go.Abs
open Go
section
variable {P:Program}{ρ:Rho}{α:Type}{L:Nat}{G:Gh}{w:World}{s:S}{μ:Mu}{a:Act}{o:Oper}{h:OpHint}{k:LV→S→Mu→Option α}{p:CV→S→Mu→Option α}{r:α}{K:Act→World→Prop}{Q:Exit→Act→World→Prop}
theorem jc {G0:Gh}{w0:World}{T0:Nat→Prop}(R:Rel G L s μ a.tmps w)(E:Ext L T0 G0 w0 G w (az G w s μ a.tmps))(hd: ∀d,o.dst=some d→d<a.tmps.size)
  {ob:Obj} {n:Nat} {v:LV} {cv:Value} (hv:Le G w (G.setO w.heap.size n) (w.alloc ob)→LVR (G.setO w.heap.size n) (w.alloc ob) L s.lam.length v cv) (ho: ∀b,aE v cv b→b=w.heap.size):
  ∃G1,Rel G1 L (s.put o.dst v) μ (a.put o.dst cv).tmps (w.alloc ob)∧Ext L T0 G0 w0 G1 (w.alloc ob) (az G1 (w.alloc ob) (s.put o.dst v) μ (a.put o.dst cv).tmps):=by
 obtain⟨R1,hO⟩:=R.alloc ob n
 have hT: ∀b,az (G.setO w.heap.size n) (w.alloc ob) s μ a.tmps b→az G w s μ a.tmps b:=by
  intro b hb
  rcases hb with⟨l,hb⟩|hb
  ·exact .inl ⟨l,hO l b hb⟩
  ·exact .inr hb
 have E1:Ext L (az G w s μ a.tmps) G w (G.setO w.heap.size n) (w.alloc ob) (az (G.setO w.heap.size n) (w.alloc ob) s μ a.tmps):=Ext.alloc ob n fun b hb=> .inl (hT b hb)
 obtain ⟨R2, E2⟩ := cx (dst := o.dst) (v := v) (cv := cv) R1 (E.trans E1) (hv (po ob n)) (fun b hb => by
  have hb':=ho b hb
  subst hb'
  refine⟨fun l hl=> ?_,fun lev i hl e=> ?_,.inr E.size⟩
  ·have:=R.touch_lt (.inl ⟨l,hO l _ hl⟩)
   omega
  ·have:=R.touch_lt (.inr ⟨lev,i,hl,e⟩)
   omega) hd
 exact⟨_,R2,E2⟩
theorem sN {α:Type}: ∀(l pre mid post:List α),mid.length=l.length→cU (pre++mid++post) pre.length l=pre++l++post
 |[],pre,mid,post,h=>by
  have:mid=[]:=List.eq_nil_of_length_eq_zero (by simpa using h)
  subst this;rfl
 |x::l,pre,mid,post,h=>by
  cases mid with
  |nil=>simp at h
  |cons m mid=>
   simp only[cU]
   have e:(pre++m::mid++post).set pre.length x=(pre++[x])++mid++post:=by simp
   rw[e]
   have:=sN l (pre++[x]) mid post (by simpa using h)
   simp only[List.length_append,List.length_cons,List.length_nil]at this
   rw[this];simp
theorem y9 {sz:Nat}: ∀{ps:List (Nat×CV)} {n:Nat} {xs:List CV},vJ sz n ps=some xs→ ∀pre:List CV,pre.length=n*sz→
  mh (fun i=>some (i*sz,sz)) (pre++List.replicate (xs.length*sz) .undef) ps=some (pre++xs.flatMap CV.cells)∧ ∀x∈xs,x.cells.length=sz
 |[],n,xs,h,pre,hp=>by simp only[vJ,Option.some.injEq]at h;subst h;simp[mh]
 |(i,c)::ps,n,xs,h,pre,hp=>by
  simp only[vJ]at h
  split at h<;>try(simp at h;done)
  rename_i hc
  simp only[Bool.and_eq_true]at hc
  have hi:=Nat.eq_of_beq_eq_true hc.1
  have hl:=Nat.eq_of_beq_eq_true hc.2
  obtain⟨ys,h1,h2⟩:=ab.1 h
  simp only[Option.some.injEq]at h2
  subst h2
  subst hi
  obtain⟨ih1,ih2⟩:=y9 h1 (pre++c.cells) (by rw[List.length_append,hp,hl,Nat.add_mul];omega)
  refine⟨?_,fun x hx=> ?_⟩
  ·simp only[mh]
   have hlen:(pre++List.replicate ((c::ys).length*sz) CV.undef).length=i*sz+(ys.length+1)*sz:=by simp[hp]
   have hle:Nat.ble (i*sz+sz) (pre++List.replicate ((c::ys).length*sz) CV.undef).length=true:=by
    rw[hlen];exact Nat.ble_eq_true_of_le (by rw[Nat.add_mul ys.length];omega)
   have hb:(Nat.beq c.cells.length sz&&Nat.ble (i*sz+sz) (pre++List.replicate ((c::ys).length*sz) CV.undef).length)=true:=by
    rw[hle,hl];simp[Nat.beq_refl]
   rw[hb]
   have e:pre++List.replicate ((c::ys).length*sz) CV.undef=pre++List.replicate sz CV.undef++List.replicate (ys.length*sz) CV.undef:=by
    rw[List.append_assoc,List.replicate_append_replicate]
    congr 2
    simp only[List.length_cons,Nat.add_mul];omega
   have:=sN c.cells pre (List.replicate sz CV.undef) (List.replicate (ys.length*sz) CV.undef) (by simp[hl])
   rw[hp,←e]at this
   simp only[List.append_assoc]at ih1
   simp only[this,List.flatMap_cons,List.append_assoc]
   exact ih1
  ·rcases List.mem_cons.1 hx with rfl|hx
   ·exact hl
   ·exact ih2 x hx
theorem yH: ∀(vs:List Value),VRL G w (List.replicate vs.length .undef) vs
 |[]=>by simp[VRL]
 |v::r=>by simp only[List.length_cons,List.replicate_succ,VRL];exact⟨v,r,rfl,by simp[VR],yH r⟩
theorem xX {t e:TypeId}{sz len:Nat}{parts:Array (Nat×Operand)}{ps:List (Nat×CV)}{xs:List CV}{zc:List CV}(R:Rel G L s μ a.tmps w)(hu:P.underlying t=some (.slice e))(hsz:cO P e=some sz)
  (hz:zeroCells P e=some zc) (hp:dv (evA h s.fr) parts.toList=some ps) (hx:vJ sz 0 ps=some xs) (hlen:xs.length=len) (hsm:len*sz≤10000):
  ∃cur:Array Value,(Instr.buildSlice t len (parts.map fun q=>(q.1,a.eval q.2))).run P w= .ok (.slice (some ⟨w.heap.size,0,none⟩) len len) (w.alloc (.cells cur e))∧
   VRL G w (xs.flatMap CV.cells) cur.toList∧cur.size=len*sz∧ ∀x∈xs,x.cells.length=sz:=by
 obtain⟨z,i,hi,hzi,hzr,hzl⟩:=jh (P:=P) (G:=G) (w:=w) hz
 have hpr:=om R h hp
 have hparts:(parts.map fun q=>(q.1,a.eval q.2)).toList=parts.toList.map fun q=>(q.1,a.eval q.2):=by simp
 obtain⟨hf,hall⟩:=y9 hx [] (by simp)
 simp only[List.nil_append]at hf
 have hfill: ∀zz:Array Value,∃b:Array Value,Instr.fill (fun i=>some (i*sz,sz)) ((Array.range (len*sz)).map (zz[· % zz.size]!)) (parts.toList.map fun q=>(q.1,a.eval q.2))=some b∧VRL G w (xs.flatMap CV.cells) b.toList∧b.size=len*sz:=by
  intro zz
  have hvl:VRL G w (List.replicate (xs.length*sz) CV.undef) ((Array.range (len*sz)).map (zz[· % zz.size]!)).toList:=by
   have:=yH (G:=G) (w:=w) ((Array.range (len*sz)).map (zz[· % zz.size]!)).toList
   rw[show ((Array.range (len*sz)).map (zz[· % zz.size]!)).toList.length=xs.length*sz by simp[hlen]]at this
   exact this
  obtain⟨b,hb,hr,hbs⟩:=qf hpr hvl hf
  exact⟨b,hb,hr,by rw[hbs];simp⟩
 have h24: ¬len*sz>2^24:=by omega
 by_cases h0:len*sz=0
 ·obtain⟨b,hb,hr,hbs⟩:=hfill #[]
  refine⟨b,?_,hr,hbs,hall⟩
  simp only[Instr.buildSlice,Sem.run_bind,run_underlying hu,Result.andThen_ok,dp hsz,if_neg h24,if_pos h0,Sem.run_pure,hparts,hb,newRow,run_newObj]
  rfl
 ·obtain⟨b,hb,hr,hbs⟩:=hfill z.cells
  refine⟨b,?_,hr,hbs,hall⟩
  simp only[Instr.buildSlice,Sem.run_bind,run_underlying hu,Result.andThen_ok,dp hsz,if_neg h24,if_neg h0,hzr,Sem.run_pure,hparts,hb,newRow,run_newObj]
  rfl
theorem A4 {t e:TypeId}{len sz:Nat}{parts:Array (Nat×Operand)}{ps:List (Nat×CV)}{xs zc:List CV}(ho:o.op= .buildSlice t len parts)(R:Rel G L s μ a.tmps w)(hd: ∀d,o.dst=some d→d<a.tmps.size)(hk:KOK L G w s μ a o.dst k r K)
  (hu:P.underlying t=some (.slice e)) (hsz:cO P e=some sz) (hby:mC P e=true) (hz:zeroCells P e=some zc) (hp:dv (evA h s.fr) parts.toList=some ps) (hx:vJ sz 0 ps=some xs) (hlen:xs.length=len) (hsm:len*sz≤10000) (hbt:(Nat.beq e 5||iU xs)=true)
  (hop : (match h.arr with
   |false=>k (.osl xs) (ad h.take s) μ
   |true=>k (.lsl (ad h.take s).lam.length 0 len) {ad h.take s with lam:=(ad h.take s).lam++[.arr sz (xs.flatMap CV.cells)]} μ)=some r):o.wp P a w K Q:=by
 obtain⟨R1,E1,hO⟩:=dB R h.take
 obtain⟨cur,hrun,hl,hcs,hall⟩:=xX R hu hsz hz hp hx hlen hsm
 have hrun':(execOp a.eval o).run P w= .ok (.value (.slice (some ⟨w.heap.size,0,none⟩) len len)) (w.alloc (.cells cur e)):=by
  simp only[execOp,ho]
  exact cN hrun
 have hsz1:1≤sz:=by
  unfold mC at hby
  unfold cO at hsz
  split at hby<;>try(simp at hby;done)
  rename_i i hi
  rw[hi]at hsz
  simp only[Option.some.injEq,Bool.and_eq_true]at hsz hby
  have:=Nat.le_of_ble_eq_true hby.2
  omega
 have hlm:len≤10000:=Nat.le_trans (Nat.le_mul_of_pos_right len hsz1) hsm
 split at hop
 ·obtain ⟨G1, R2, E2⟩ := jc (o := o) (n := len * sz) (ob := .cells cur e) (v := .osl xs) (cv := .slice (some ⟨w.heap.size, 0, none⟩) len len) R1 E1 hd (fun hle => by
   simp only[LVR]
   refine .inr ⟨w.heap.size,len,cur,e,sz,by rw[hlen],heap_alloc_new w _,by omega,by unfold maxLen;omega,by omega,hall,fun h0=>by subst h0;simpa using hlen.symm,?_,by rw[dc,hlen],yP hbt⟩
   obtain⟨hlen2,hg⟩:=dU hl
   refine EL_of (vs:=cur.toList) hall (eG hlen2 fun j c v hc hv=> ?_) fun j v hv=> ?_
   ·obtain⟨v',hv',hr⟩:=hg j c hc
    rw[hv]at hv'
    injection hv' with hv'
    subst hv'
    exact bm hle c v hr
   ·have hj:j<cur.size:=by have:=(List.getElem?_eq_some_iff.1 hv).1;simpa using this
    rw[Nat.zero_add,dc]
    refine⟨?_,by omega⟩
    rw[cell_of_heap (heap_alloc_new w (.cells cur e)) hj]
    rw[Array.getElem?_toList]at hv
    simp[Array.getD_eq_getD_getElem?,hv]) (fun b hb=>by simpa[aE]using hb.symm)
  exact de hrun' (hk _ _ μ _ _ G1 hop R2 E2)
 ·obtain ⟨G1, R2, E2⟩ := jd (o := o) (kk := sz) (e := e) R1 E1 hd (lT cur) (ob := .arr sz (xs.flatMap CV.cells)) (.inr ⟨_, rfl, by have := VRL_len hl; simp at this ⊢; omega, fun j x hx => by
    obtain⟨v,hv,hr⟩:=(dU hl).2 j x hx
    have:cur.getD j undef=v:=by
     rw[Array.getElem?_toList]at hv
     simp[Array.getD_eq_getD_getElem?,hv]
    rw[this];exact hr⟩)
   (fun cs' j b he hc => by cases he) (v := .lsl (ad h.take s).lam.length 0 len) (cv := .slice (some ⟨w.heap.size, 0, none⟩) len len) (fun G1 w1 hG hw => by
    subst hG;subst hw
    simp only[LVR]
    refine⟨by omega,len,cur,e,(0,0),by simp[Gh.setL],Nat.le_refl _,by unfold maxLen;omega,?_,?_⟩
    ·simp only[Gh.setL,and_self,if_true];exact heap_alloc_new w _
    ·simp only[Gh.setL,and_self,if_true];omega) (fun b hb=>by simp[aE]at hb)
  exact de hrun' (hk _ _ μ _ _ G1 hop R2 E2)
theorem Hn (c:Array Value)(e:TypeId):((w.alloc (.cells c e)).freeze ⟨w.heap.size,c.size,none⟩ 1)=w.alloc (.cells c e (c.size,c.size+1)):=by
 simp only[World.freeze,World.alloc,Nat.one_ne_zero,if_false]
 congr 1
 apply Array.ext
 ·simp
 ·intro i h1 h2
  simp only[Array.getElem_modify]
  by_cases hi:w.heap.size=i
  ·subst hi
   simp
  ·simp only[hi,if_false]
   have:i<w.heap.size:=by simp at h2;omega
   simp[Array.getElem_push,this]
def eB (l:List UInt8):List Value:=l.map fun b=> .int .u8 (b.toNat:Int)
def iw (l:List UInt8)(n:Nat):Array Value:=(eB l++List.replicate n (Value.int .u8 0)).toArray
theorem A2 (l:List UInt8)(n:Nat):(iw l n).size=l.length+n:=by simp[iw,eB]
theorem CE {src dst e:TypeId}{l:List UInt8}(hu:P.underlying dst=some (.slice e))(hue:P.underlying e=some (.int .u8))(hs:P.underlying src=some .string)(hl:l.length≤1099511627776):
  ∃(cap:Nat) (cur:Array Value),(convert src dst (.string ⟨⟨l⟩⟩)).run P w= .ok (.slice (some ⟨w.heap.size,0,none⟩) l.length cap) (w.drew.alloc (.cells cur e (cur.size,cur.size+1)))∧
   l.length≤cap∧cap≤maxLen∧cur.size=cap∧ ∀(j:Nat) b,l[j]? =some b→cur.getD j undef= .int .u8 (b.toNat:Int):=by
 have hge:=grownCap_ge w l.length 0 e
 have hle:=grownCap_le_maxLen w l.length 0 e (by unfold maxLen;omega)
 refine⟨grownCap w l.length 0 e,iw l (grownCap w l.length 0 e-l.length),?_,hge,hle,by rw[A2];omega,?_⟩
 ·simp only[convert,Sem.run_bind,run_underlying hu,run_underlying hue,run_underlying hs,Result.andThen_ok,Conv.stringToBytes,run_choose,Question.forced,Bool.false_eq_true,if_false]
  have hsz:(⟨⟨l⟩⟩:ByteArray).size=l.length:=rfl
  rw[hsz]
  have hg:Question.cut (Question.appendCap l.length 0 e) (w.tape w.drawn (Question.appendCap l.length 0 e))=grownCap w l.length 0 e:=rfl
  rw[hg]
  have harr:(Array.map (fun(b:UInt8)=>Value.int .u8 (b.toNat:Int)) (⟨⟨l⟩⟩:ByteArray).data++Array.replicate (grownCap w l.length 0 e-l.length) (Value.int .u8 0))=
    iw l (grownCap w l.length 0 e-l.length):=by
   apply Array.ext'
   simp[iw,eB]
  simp only[harr,newRow,Sem.run_bind,run_newObj,Result.andThen_ok,Sem.run_pure,markStringish,run_shape,World.alloc_eq,World.drew_eq,World.size_drew]
  have hsh:(w.drew.alloc (.cells (iw l (grownCap w l.length 0 e-l.length)) e)).shape? w.heap.size=some (e,(iw l (grownCap w l.length 0 e-l.length)).size):=by
   simp only[World.shape?]
   rw[show w.heap.size=w.drew.heap.size from rfl,heap_alloc_new]
  simp only[hsh,Sem.run_bind,run_freeze,Result.andThen_ok,Sem.run_pure]
  have:=Hn (w:=w.drew) (iw l (grownCap w l.length 0 e-l.length)) e
  rw[show w.drew.heap.size=w.heap.size from rfl]at this
  rw[this]
 ·intro j b hb
  have hj:j<l.length:=(List.getElem?_eq_some_iff.1 hb).1
  have hj':(eB l)[j]? =some (Value.int .u8 (b.toNat:Int)):=by simp[eB,hb]
  have hjl:j<(eB l).length:=by simpa[eB]using hj
  simp only[iw,Array.getD_eq_getD_getElem?,List.getElem?_toArray,List.getElem?_append_left hjl,hj',Option.getD_some]
theorem p9: ∀l:List UInt8,(l.map fun(b:UInt8)=>CV.v (.int .u8 (b.toNat:Int))).flatMap CV.cells=l.map fun(b:UInt8)=>CV.v (.int .u8 (b.toNat:Int))
 |[]=>rfl
 |b::l=>by simp only[List.map_cons,List.flatMap_cons,p9 l,CV.cells];rfl
theorem G5 {src dst e:TypeId}{x:Operand}{l:List UInt8}(ho:o.op= .convert src dst x)(R:Rel G L s μ a.tmps w)(hd: ∀d,o.dst=some d→d<a.tmps.size)(hk:KOK L G w s μ a o.dst k r K)
  (hu:P.underlying dst=some (.slice e)) (hue:P.underlying e=some (.int .u8)) (hs:P.underlying src=some .string) (he:evA h s.fr x=LV.str l) (hsm:bd l.length=true)
  (hop : (match h.arr with
    |true=>k (.lsl (ad h.take s).lam.length 0 l.length) {ad h.take s with lam:=(ad h.take s).lam++[.arr 1 (l.map fun b=> .v (.int .u8 (b.toNat:Int)))]} μ
    |false=>k (.cv (.sl (l.map fun b=> .v (.int .u8 (b.toNat:Int))))) (ad h.take s) μ)=some r):o.wp P a w K Q:=by
 obtain⟨R1,E1,hO⟩:=dB R h.take
 have hv:=cC R he
 simp only[VR]at hv
 simp only[bd,decide_eq_true_eq]at hsm
 obtain⟨cap,cur,hrun,h1,h2,h3,h4⟩:=CE (P:=P) (w:=w) hu hue hs hsm
 have hrun':(execOp a.eval o).run P w= .ok (.value (.slice (some ⟨w.heap.size,0,none⟩) l.length cap)) (w.drew.alloc (.cells cur e (cur.size,cur.size+1))):=by
  simp only[execOp,ho,hv]
  exact cN hrun
 obtain⟨R2,hO2⟩:=R1.drew
 have E2:Ext L (az G w s μ a.tmps) G w G w.drew (az G w.drew (ad h.take s) μ a.tmps):=by
  refine E1.drew.weaken (fun _ h=>h) fun b hb=> ?_
  rcases hb with⟨l,hb⟩|hb
  ·exact .inl ⟨l,hO2 l b hb⟩
  ·exact .inr hb
 have hfz:d7 cur (cur.size,cur.size+1):=fun j hj h=>by simp at h;omega
 have hcells: ∀(j:Nat) c,(l.map fun(b:UInt8)=>CV.v (.int .u8 (b.toNat:Int)))[j]? =some c→ ∃b,l[j]? =some b∧c= .v (.int .u8 (b.toNat:Int)):=by
  intro j c hc
  simp only[List.getElem?_map,Option.map_eq_some_iff]at hc
  obtain⟨b,hb,rfl⟩:=hc
  exact⟨b,hb,rfl⟩
 split at hop
 ·obtain ⟨G1, R3, E3⟩ := jd (o := o) (kk := 1) (e := e) R2 E2 hd hfz (ob := .arr 1 (l.map fun b => .v (.int .u8 (b.toNat : Int)))) (.inr ⟨_, rfl, by simp; omega, fun j x hx => by
    obtain⟨b,hb,rfl⟩:=hcells j x hx
    simp only[VR]
    exact h4 j b hb⟩)
   (fun cs' j b he hc => by cases he) (v := .lsl (ad h.take s).lam.length 0 l.length) (cv := .slice (some ⟨w.heap.size, 0, none⟩) l.length cap) (fun G1 w1 hG hw => by
    subst hG;subst hw
    simp only[LVR]
    refine⟨by omega,cap,cur,e,(cur.size,cur.size+1),by simp[Gh.setL],h1,h2,?_,?_⟩
    ·simp only[Gh.setL,and_self,if_true];exact heap_alloc_new w.drew _
    ·simp only[Gh.setL,and_self,if_true];omega) (fun b hb=>by simp[aE]at hb)
  exact de hrun' (hk _ _ μ _ _ G1 hop R3 E3)
 ·obtain ⟨G1, R3, E3⟩ := jc (o := o) (n := cur.size) (ob := .cells cur e (cur.size, cur.size + 1)) (v := .cv (.sl (l.map fun b => .v (.int .u8 (b.toNat : Int))))) (cv := .slice (some ⟨w.heap.size, 0, none⟩) l.length cap) R2 E2 hd (fun hle => by
   simp only[LVR,VR]
   refine⟨_,l.length,cap,rfl,by simp,h1,.inr ⟨w.heap.size,0,1,rfl,fun x hx=> ?_,?_⟩⟩
   ·obtain⟨b,_,rfl⟩:=List.mem_map.1 hx;rfl
   ·have hflat:=p9 l
    refine EL_of (vs:=(List.range l.length).map fun j=>cur.getD j undef) (fun x hx=>by obtain⟨b,_,rfl⟩:=List.mem_map.1 hx;rfl) ?_ fun j v hv=> ?_
    ·rw[hflat]
     refine eG (by simp) fun j c v hc hv=> ?_
     obtain⟨b,hb,rfl⟩:=hcells j c hc
     have hj:j<l.length:=(List.getElem?_eq_some_iff.1 hb).1
     simp only[List.getElem?_map,List.getElem?_range hj,Option.map_some,Option.some.injEq]at hv
     simp only[VR]
     rw[←hv];exact h4 j b hb
    ·have hj:j<l.length:=by have:=(List.getElem?_eq_some_iff.1 hv).1;simpa using this
     simp only[List.getElem?_map,List.getElem?_range hj,Option.map_some,Option.some.injEq]at hv
     rw[Nat.zero_add,←hv]
     refine⟨cell_of_heap (heap_alloc_new w.drew _) (by omega),?_⟩
     rw[show w.heap.size=w.drew.heap.size from rfl,dc];omega) (fun b hb=>by simp[aE]at hb)
  exact de hrun' (hk _ _ μ _ _ G1 hop R3 E3)
end
end Go.Abs
set_option linter.unusedVariables false
set_option linter.unusedSimpArgs false
namespace Go.Abs
open Go
def Gh.cut (G:Gh)(m:Nat):Gh:={G with n:=fun l=>if l<m then G.n l else 0}
section
variable {G:Gh}{w:World}{lev m:Nat}
theorem bf {n:Nat}{c:CV}{r:List CV}(h:bN n (c::r)=true):below n c=true∧bN n r=true:=by
 simp only[bN]at h
 split at h
 ·exact⟨by assumption,h⟩
 ·simp at h
mutual
theorem dZ: ∀(c:CV) (v:Value),below m c=true→VR G w c v→VR (G.cut m) w c v
 | .undef,v,_,_=>by simp[VR]
 | .v x,v,_,hv=>by simpa[VR]using hv
 | .agg cs,v,hb,hv=>by
  simp only[VR,below]at hv hb ⊢
  obtain⟨vs,e,hl⟩:=hv
  exact⟨vs,e,oE cs _ hb hl⟩
 | .sl xs,v,hb,hv=>by
  simp only[VR,below]at hv hb ⊢
  obtain⟨A,len,cap,e,h1,h2,h3⟩:=hv
  refine⟨A,len,cap,e,h1,h2,h3.imp id ?_⟩
  rintro⟨b,off,s,e1,hs,hl⟩
  exact⟨b,off,s,e1,hs,eW b s off xs hb hl⟩
 | .view cs,v,hb,hv=>by
  simp only[VR,below]at hv hb ⊢
  obtain⟨b,off,e,hl⟩:=hv
  exact⟨b,off,e,Ap b off cs hb hl⟩
 | .ref l i off,v,hb,hv=>by
  simp only[VR,below,decide_eq_true_eq]at hv hb ⊢
  exact⟨by simp only[Gh.cut];rw[if_pos hb];exact hv.1,hv.2⟩
 | .msl l i off len,v,hb,hv=>by
  simp only[VR,below,decide_eq_true_eq]at hv hb ⊢
  exact⟨by simp only[Gh.cut];rw[if_pos hb];exact hv.1,hv.2⟩
 | .mview ks vs,v,hb,hv=>by
  simp only[VR,below]at hv hb ⊢
  obtain⟨r,es,clk,e,h1,h2,h3,h4⟩:=hv
  exact⟨r,es,clk,e,h1,h2,h3,oE vs _ hb h4⟩
 | .mref l i,v,hb,hv=>by
  simp only[VR,below,decide_eq_true_eq]at hv hb ⊢
  exact⟨by simp only[Gh.cut];rw[if_pos hb];exact hv.1,hv.2⟩
 | .tref l i t n,v,hb,hv=>by
  simp only[VR,below,decide_eq_true_eq]at hv hb ⊢
  exact⟨by simp only[Gh.cut];rw[if_pos hb];exact hv.1,hv.2⟩
 | .clo f caps,v,hb,hv=>by
  simp only[VR,below]at hv hb ⊢
  obtain⟨vs,e,hl⟩:=hv
  exact⟨vs,e,oE caps _ hb hl⟩
 | .iface t x,v,hb,hv=>by
  simp only[VR,below]at hv hb ⊢
  obtain⟨u,e,hl⟩:=hv
  exact⟨u,e,dZ x u hb hl⟩
theorem oE: ∀(cs:List CV) (vs:List Value),bN m cs=true→VRL G w cs vs→VRL (G.cut m) w cs vs
 |[],vs,_,hv=>by simpa[VRL]using hv
 |c::cs,vs,hb,hv=>by
  simp only[VRL]at hv ⊢
  obtain⟨v,r,e,h1,h2⟩:=hv
  exact⟨v,r,e,dZ c v (bf hb).1 h1,oE cs r (bf hb).2 h2⟩
theorem Ap (b:Nat): ∀(off:Nat) (cs:List CV),bN m cs=true→CL G w b off cs→CL (G.cut m) w b off cs
 |_,[],_,_=>by simp[CL]
 |off,c::cs,hb,hv=>by
  simp only[CL]at hv ⊢
  obtain⟨⟨v,hc,ho,h1⟩,h2⟩:=hv
  exact⟨⟨v,hc,ho,dZ c v (bf hb).1 h1⟩,Ap _ (off+1) cs (bf hb).2 h2⟩
theorem eW (b s:Nat): ∀(off:Nat) (cs:List CV),bN m cs=true→EL G w b s off cs→EL (G.cut m) w b s off cs
 |_,[],_,_=>by simp[EL]
 |off,.agg cs::r,hb,hv=>by
  simp only[EL]at hv ⊢
  exact⟨Ap b off cs (by simpa[below]using(bf hb).1) hv.1,eW b s (off+s) r (bf hb).2 hv.2⟩
 |off,.undef::r,hb,hv=>by
  simp only[EL]at hv ⊢
  obtain⟨⟨v,hc,ho,h1⟩,h2⟩:=hv
  exact⟨⟨v,hc,ho,by simp[VR]⟩,eW _ s (off+s) r (bf hb).2 h2⟩
 |off,.v x::r,hb,hv=>by
  simp only[EL]at hv ⊢
  obtain⟨⟨v,hc,ho,h1⟩,h2⟩:=hv
  exact⟨⟨v,hc,ho,dZ (.v x) v (bf hb).1 h1⟩,eW _ s (off+s) r (bf hb).2 h2⟩
 |off,.sl x::r,hb,hv=>by
  simp only[EL]at hv ⊢
  obtain⟨⟨v,hc,ho,h1⟩,h2⟩:=hv
  exact⟨⟨v,hc,ho,dZ (.sl x) v (bf hb).1 h1⟩,eW _ s (off+s) r (bf hb).2 h2⟩
 |off,.view x::r,hb,hv=>by
  simp only[EL]at hv ⊢
  obtain⟨⟨v,hc,ho,h1⟩,h2⟩:=hv
  exact⟨⟨v,hc,ho,dZ (.view x) v (bf hb).1 h1⟩,eW _ s (off+s) r (bf hb).2 h2⟩
 |off,.ref x y z::r,hb,hv=>by
  simp only[EL]at hv ⊢
  obtain⟨⟨v,hc,ho,h1⟩,h2⟩:=hv
  exact⟨⟨v,hc,ho,dZ (.ref x y z) v (bf hb).1 h1⟩,eW _ s (off+s) r (bf hb).2 h2⟩
 |off,.msl x y z l::r,hb,hv=>by
  simp only[EL]at hv ⊢
  obtain⟨⟨v,hc,ho,h1⟩,h2⟩:=hv
  exact⟨⟨v,hc,ho,dZ (.msl x y z l) v (bf hb).1 h1⟩,eW _ s (off+s) r (bf hb).2 h2⟩
 |off,.mview x y::r,hb,hv=>by
  simp only[EL]at hv ⊢
  obtain⟨⟨v,hc,ho,h1⟩,h2⟩:=hv
  exact⟨⟨v,hc,ho,dZ (.mview x y) v (bf hb).1 h1⟩,eW _ s (off+s) r (bf hb).2 h2⟩
 |off,.mref x y::r,hb,hv=>by
  simp only[EL]at hv ⊢
  obtain⟨⟨v,hc,ho,h1⟩,h2⟩:=hv
  exact⟨⟨v,hc,ho,dZ (.mref x y) v (bf hb).1 h1⟩,eW _ s (off+s) r (bf hb).2 h2⟩
 |off,.tref x y t n::r,hb,hv=>by
  simp only[EL]at hv ⊢
  obtain⟨⟨v,hc,ho,h1⟩,h2⟩:=hv
  exact⟨⟨v,hc,ho,dZ (.tref x y t n) v (bf hb).1 h1⟩,eW _ s (off+s) r (bf hb).2 h2⟩
 |off,.clo f x::r,hb,hv=>by
  simp only[EL]at hv ⊢
  obtain⟨⟨v,hc,ho,h1⟩,h2⟩:=hv
  exact⟨⟨v,hc,ho,dZ (.clo f x) v (bf hb).1 h1⟩,eW _ s (off+s) r (bf hb).2 h2⟩
 |off,.iface t x::r,hb,hv=>by
  simp only[EL]at hv ⊢
  obtain⟨⟨v,hc,ho,h1⟩,h2⟩:=hv
  exact⟨⟨v,hc,ho,dZ (.iface t x) v (bf hb).1 h1⟩,eW _ s (off+s) r (bf hb).2 h2⟩
end
theorem rT:G.below lev=G.cut (lev+1):=by
 simp only[Gh.below,Gh.cut,Nat.lt_succ_iff]
theorem AO (c:CV)(v:Value)(hb:below (lev+1) c=true)(h:VR G w c v):VR (G.below lev) w c v:=by
 rw[rT];exact dZ c v hb h
theorem M4 (b s off:Nat)(cs:List CV)(hb:bN (lev+1) cs=true)(h:EL G w b s off cs):EL (G.below lev) w b s off cs:=by
 rw[rT];exact eW b s off cs hb h
theorem yF {xs:List CV}{v:Value}(hb:bN m xs=true)(h:k7 G w xs v):k7 (G.cut m) w xs v:=by
 rcases h with h|⟨b,cap,cur,e,s,h1,h2,h3,h4,h5,h6,h7,h8,h9,h10⟩
 ·exact .inl h
 ·exact .inr ⟨b,cap,cur,e,s,h1,h2,h3,h4,h5,h6,h7,eW b s 0 xs hb h8,h9,h10⟩
theorem CR {xs:List CV}{v:Value}(hb:bN (lev+1) xs=true)(h:k7 G w xs v):k7 (G.below lev) w xs v:=by
 rcases h with h|⟨b,cap,cur,e,s,h1,h2,h3,h4,h5,h6,h7,h8,h9,h10⟩
 ·exact .inl h
 ·exact .inr ⟨b,cap,cur,e,s,h1,h2,h3,h4,h5,h6,h7,M4 b s 0 xs hb h8,h9,h10⟩
theorem JK {L nl nl':Nat}{x:LV}{v:Value}(hb:yy lev x=true)(h:LVR G w L nl x v):LVR (G.below lev) w lev nl' x v:=by
 cases x<;>simp only[yy,Bool.false_eq_true]at hb<;>simp only[LVR]at h ⊢
 ·exact AO _ _ hb h
 ·exact CR hb h
end
section
variable {P:Program}{ρ:Rho}{α:Type}{L:Nat}{G:Gh}{w:World}{s:S}{μ:Mu}{a:Act}{o:Oper}{h:OpHint}{k:LV→S→Mu→Option α}{p:CV→S→Mu→Option α}{r:α}{K:Act→World→Prop}{Q:Exit→Act→World→Prop}
theorem Ji {x:Sem Unit}{w':World}(h:x.run P w= .ok () w'):(do x;pure Next.skip:Sem Next).run P w= .ok .skip w':=by
 rw[Sem.run_bind,h];rfl
theorem fV {cur:Array Value}{off:Nat}{vs:List Value}{j:Nat}(h:off+vs.length≤cur.size)(hj:j<vs.length):(bJ cur off vs).getD (off+j) undef=vs.getD j undef:=by
 have:=sF vs off cur j h hj
 simp only[Array.getD_eq_getD_getElem?,List.getD_eq_getElem?_getD,this]
theorem ez {cur:Array Value}{off:Nat}{vs:List Value}{j:Nat}(h:j<off∨off+vs.length≤j):(bJ cur off vs).getD j undef=cur.getD j undef:=by
 simp only[Array.getD_eq_getD_getElem?]
 rcases h with h|h
 ·rw[ke vs off cur j h]
 ·rw[ni vs off cur j h]
theorem qV {n:Nat}{c:CV}(h:fq n c=true):c.cells.length=n∧gQ c=true:=by
 simp only[fq,Bool.and_eq_true]at h
 exact⟨Nat.eq_of_beq_eq_true h.1,h.2⟩
theorem Rel.writeOb {G0:Gh}{w0:World}{tm:Array Value}{T0:Nat→Prop}{s1:S}{μ1:Mu}{lev i off:Nat}{ob o':Ob}{v:LV}{cv:Value}{t:TypeId}(R:Rel G L s μ tm w)
  (E:Ext L T0 G0 w0 G w (az G w s μ tm)) (hob:aD (μ++[s.lam]) lev i=ob) (hw:bI P t ob off v=some o')
  (hv:(lev=L→LVR G w L s.lam.length v cv)∧(lev<L→LVR (G.below lev) w lev 0 v cv))
  (hown: ∀b,aE v cv b→(∀l,¬ax G w s.fr tm (μ++[s.lam]) l b)∧(∀lev i,aK (aD (μ++[s.lam]) lev i)→G.β lev i≠b)∧(T0 b∨w0.heap.size≤b))
  (hfr:s1.fr=s.fr) (hp:s1.pushed=s.pushed) (hlen:s1.lam.length=s.lam.length) (hμlen:μ1.length=μ.length) (hH:μ1++[s1.lam]=bD (μ++[s.lam]) lev i o'):
  ∃w',(storeVar t ⟨G.β lev i,off,none⟩ cv).run P w= .ok () w'∧Rel G L s1 μ1 tm w'∧Ext L T0 G0 w0 G w' (az G w' s1 μ1 tm):=by
 have hl:aK (aD (μ++[s.lam]) lev i):=by
  rw[hob]
  cases ob<;>first|trivial|simp[bI]at hw
 have hlvl:lev=L∨lev<L:=by rcases cJ R.lev hl with⟨h1,_⟩|⟨h1,_⟩<;>omega
 have hobr:(lev=L→ObR G w L s.lam.length (G.β lev i) (G.sz lev i) ob)∧(lev<L→ObR (G.below lev) w lev 0 (G.β lev i) (G.sz lev i) ob):=by
  rcases cJ R.lev hl with⟨h1,h2⟩|⟨rfl,h1,h2⟩
  ·refine⟨fun e=>by omega,fun _=> ?_⟩
   rw[←hob,h2];exact R.mu lev i h1
  ·refine⟨fun _=> ?_,fun e=>by omega⟩
   rw[←hob,h2];exact R.lam i
 have hblk: ∃cur e fz,w.heap[G.β lev i]? =some (.cells cur e fz)∧d7 cur fz∧G.O (G.β lev i)=0∧(∀cs,ob= .cells cs→cs.length≤cur.size)∧(∀k cs,ob= .arr k cs→k=G.sz lev i∧cs.length≤cur.size):=by
  rcases hlvl with e|e
  ·have:=hobr.1 e
   cases ob with
   |dead=>simp[bI]at hw
   |map ks vs=>simp[bI]at hw
   |cells cs=>
    simp only[ObR]at this
    obtain⟨cur,e,fz,h1,h2,h3,h4,_⟩:=this
    exact⟨cur,e,fz,h1,h2,h3,fun _ hc=>by injection hc with hc;subst hc;exact h4,fun _ _ hc=>by cases hc⟩
   |arr kk cs=>
    simp only[ObR]at this
    obtain⟨hk,cur,e,fz,h1,h2,h3,h4,_⟩:=this
    exact⟨cur,e,fz,h1,h2,h3,fun _ hc=>(by cases hc),fun _ _ hc=>(by injection hc with hc hc';subst hc;subst hc';exact⟨hk,h4⟩)⟩
  ·have:=hobr.2 e
   cases ob with
   |dead=>simp[bI]at hw
   |map ks vs=>simp[bI]at hw
   |cells cs=>
    simp only[ObR]at this
    obtain⟨cur,e,fz,h1,h2,h3,h4,_⟩:=this
    exact⟨cur,e,fz,h1,h2,h3,fun _ hc=>by injection hc with hc;subst hc;exact h4,fun _ _ hc=>by cases hc⟩
   |arr kk cs=>
    simp only[ObR]at this
    obtain⟨hk,cur,e,fz,h1,h2,h3,h4,_⟩:=this
    exact⟨cur,e,fz,h1,h2,h3,fun _ hc=>(by cases hc),fun _ _ hc=>(by injection hc with hc hc';subst hc;subst hc';exact⟨hk,h4⟩)⟩
 obtain⟨cur,e,fz,hb,hu,hO,hc1,hc2⟩:=hblk
 have hsz: ∃n,cO P t=some n∧cv.cells.size=n∧off+n≤cur.size∧(∀u∈cv.cells.toList,u.oneCell'=true):=by
  cases ob with
  |dead=>simp[bI]at hw
  |map ks vs=>simp[bI]at hw
  |cells cs=>
   simp only[bI]at hw
   obtain⟨vs,h1,hw⟩:=ab.1 hw
   obtain⟨n,hn,hw⟩:=ab.1 hw
   split at hw<;>simp only[Option.some.injEq,reduceCtorEq]at hw
   rename_i hc
   simp only[Bool.and_eq_true]at hc
   have hcn:=Nat.eq_of_beq_eq_true hc.1
   have hle:=Nat.le_of_ble_eq_true hc.2
   have:=hc1 cs rfl
   rcases hlvl with e|e
   ·obtain⟨h2,h3,h4,h5⟩:=gS h1 (hv.1 e)
    exact⟨n,hn,by omega,by omega,h4⟩
   ·obtain⟨h2,h3,h4,h5⟩:=gS h1 (hv.2 e)
    exact⟨n,hn,by omega,by omega,h4⟩
  |arr kk cs=>
   simp only[bI]at hw
   obtain⟨c,h1,hw⟩:=ab.1 hw
   obtain⟨n,hn,hw⟩:=ab.1 hw
   split at hw<;>simp only[Option.some.injEq,reduceCtorEq]at hw
   rename_i hc
   simp only[Bool.and_eq_true]at hc
   obtain⟨hcn,hso⟩:=qV hc.1
   have hle:=Nat.le_of_ble_eq_true hc.2
   have:=(hc2 kk cs rfl).2
   rcases hlvl with e|e
   ·obtain⟨h2,h3⟩:=iY hso (eQ h1 (hv.1 e))
    have:=VRL_len h2
    exact⟨n,hn,by simp at this;omega,by omega,h3⟩
   ·obtain⟨h2,h3⟩:=iY hso (eQ h1 (hv.2 e))
    have:=VRL_len h2
    exact⟨n,hn,by simp at this;omega,by omega,h3⟩
 obtain⟨n,hn,hcn,hfit,hone⟩:=hsz
 have hrun:(storeVar t ⟨G.β lev i,off,none⟩ cv).run P w= .ok () (w.setRow (G.β lev i) (bJ cur off cv.cells.toList)):=by
  have:=kT (P:=P) (G.β lev i) off e fz cv.cells.toList 0 cur w hb hu (by simpa[hcn]using hfit) hone
  simp only[Nat.add_zero]at this
  simp only[storeVar,Sem.run_bind,dp hn,Result.andThen_ok,hcn,ne_eq,not_true_eq_false,if_false,this]
 have hvl:cv.cells.toList.length=n:=by simpa using hcn
 refine⟨_,hrun,?_⟩
 have hownβ: ∀b,aE v cv b→b≠G.β lev i:=fun b hb e=>(hown b hb).2.1 lev i hl e.symm
 have hcell: ∀cs' k b,o'= .cells cs'→cF cs' (bJ cur off cv.cells.toList) k b→
   (ax G w s.fr tm (μ++[s.lam]) (.ob lev i k) b∧(k<off∨off+n≤k))∨(k=off∧aE v cv b):=by
  rintro cs' k b rfl ⟨x,hx,hox⟩
  cases ob with
  |dead=>simp[bI]at hw
  |map ks vs=>simp[bI]at hw
  |arr kk cs=>
   simp only[bI]at hw
   obtain⟨c,h1,hw⟩:=ab.1 hw
   obtain⟨n,hn,hw⟩:=ab.1 hw
   split at hw<;>simp at hw
  |cells cs=>
   simp only[bI]at hw
   obtain⟨vs,h1,hw⟩:=ab.1 hw
   obtain⟨n',hn',hw⟩:=ab.1 hw
   rw[hn]at hn'
   injection hn' with hn'
   subst hn'
   split at hw<;>simp only[Option.some.injEq,reduceCtorEq,Ob.cells.injEq]at hw
   rename_i hc
   simp only[Bool.and_eq_true]at hc
   have hvn:=Nat.eq_of_beq_eq_true hc.1
   have hle:=Nat.le_of_ble_eq_true hc.2
   subst hw
   have hlr: ∃(G2:Gh) (L2 nl2:Nat),LVR G2 w L2 nl2 v cv:=by
    rcases hlvl with e|e
    ·exact⟨_,_,_,hv.1 e⟩
    ·exact⟨_,_,_,hv.2 e⟩
   obtain⟨G2,L2,nl2,hlr⟩:=hlr
   obtain⟨h2,h3,h4,h5⟩:=gS h1 hlr
   by_cases hk:k<off∨off+n≤k
   ·left
    rw[ez (by rw[hvl];exact hk)]at hox
    have hx':cs[k]? =some x:=by
     rcases hk with hk|hk
     ·rw[eV vs off cs k hk]at hx;exact hx
     ·rw[fW vs off cs k (by omega)]at hx;exact hx
    refine⟨?_,hk⟩
    simp only[ax,hob,hx']
    exact⟨cur,e,fz,hb,hox⟩
   ·right
    obtain⟨j,rfl⟩: ∃j,k=off+j:=⟨k-off,by omega⟩
    rw[fV (by omega) (by omega)]at hox
    rw[iX vs off cs j (by omega) (by omega)]at hx
    have : cF vs cv.cells j b := ⟨x, hx, by
     rw[List.getD_eq_getElem?_getD,Array.getElem?_toList]at hox
     rw[Array.getD_eq_getD_getElem?];exact hox⟩
    obtain⟨hj,ho⟩:=h5 j b this
    exact⟨by omega,ho⟩
 have hnew: ∀G' w',Le G w G' w'→G'=G→w'=w.setRow (G.β lev i) (bJ cur off cv.cells.toList)→ ∀(G2:Gh) (L2 nl2:Nat),(∀l i,G2.β l i=G.β l i)→G2.O=G.O→Le G2 w G2 w'→ObR G2 w L2 nl2 (G.β lev i) (G.sz lev i) ob→
   LVR G2 w L2 nl2 v cv→ObR G2 w' L2 nl2 (G.β lev i) (G.sz lev i) o':=by
  intro G' w' _ hG' hw' G2 L2 nl2 hβ2 hO2 hle2 hr hvr
  subst hw'
  have hnh:=setRow_heap w (G.β lev i) cur (bJ cur off cv.cells.toList) e fz hb
  have hkeep: ∀b,b≠G.β lev i→(w.setRow (G.β lev i) (bJ cur off cv.cells.toList)).heap[b]? =w.heap[b]? :=fun b h=>setRow_other w _ b _ h
  have hun:d7 (bJ cur off cv.cells.toList) fz:=fun j hj=>hu j (by simpa[cQ]using hj)
  cases ob with
  |dead=>simp[bI]at hw
  |map ks vs=>simp[bI]at hw
  |cells cs=>
   simp only[bI]at hw
   obtain⟨vs,h1,hw⟩:=ab.1 hw
   obtain⟨n',hn',hw⟩:=ab.1 hw
   rw[hn]at hn'
   injection hn' with hn'
   subst hn'
   split at hw<;>simp only[Option.some.injEq,reduceCtorEq]at hw
   rename_i hc
   simp only[Bool.and_eq_true]at hc
   have hvn:=Nat.eq_of_beq_eq_true hc.1
   have hle:=Nat.le_of_ble_eq_true hc.2
   subst hw
   obtain⟨h2,h3,h4,h5⟩:=gS h1 hvr
   simp only[ObR]at hr ⊢
   obtain⟨cur2,e2,fz2,hb2,_,_,hcs,hr⟩:=hr
   rw[hb]at hb2
   obtain⟨rfl,rfl,rfl⟩:=(Obj.cells.injEq ..).mp (Option.some.inj hb2)
   refine⟨_,e,fz,hnh,hun,by rw[hO2];exact hO,by rw[kh,cQ];exact hcs,fun k x hx=> ?_⟩
   by_cases hk:k<off∨off+n≤k
   ·rw[ez (by rw[hvl];exact hk)]
    have hx':cs[k]? =some x:=by
     rcases hk with hk|hk
     ·rw[eV vs off cs k hk]at hx;exact hx
     ·rw[fW vs off cs k (by omega)]at hx;exact hx
    refine cY hle2 (Nat.le_refl _) (fun _ _=>⟨rfl,rfl⟩) x _ (fun b hox=>⟨hkeep b fun eb=> ?_,rfl⟩) (hr k x hx')
    subst eb
    refine R.apart (.ob lev i k) _ lev i ?_ hl rfl
    simp only[ax,hob,hx']
    exact⟨cur,e,fz,hb,hox⟩
   ·obtain⟨j,rfl⟩: ∃j,k=off+j:=⟨k-off,by omega⟩
    rw[fV (by omega) (by omega)]
    rw[iX vs off cs j (by omega) (by omega)]at hx
    have hgd:cv.cells.toList.getD j undef=cv.cells.getD j undef:=by
     rw[List.getD_eq_getElem?_getD,Array.getElem?_toList,Array.getD_eq_getD_getElem?]
    rw[hgd]
    refine cY hle2 (Nat.le_refl _) (fun _ _=>⟨rfl,rfl⟩) x _ (fun b hox=>⟨hkeep b (hownβ b (h5 j b ⟨x,hx,hox⟩).2),rfl⟩) (h3 j x hx)
  |arr kk cs=>
   simp only[bI]at hw
   obtain⟨c,h1,hw⟩:=ab.1 hw
   obtain⟨n',hn',hw⟩:=ab.1 hw
   rw[hn]at hn'
   injection hn' with hn'
   subst hn'
   split at hw<;>simp only[Option.some.injEq,reduceCtorEq]at hw
   rename_i hc
   simp only[Bool.and_eq_true]at hc
   obtain⟨hvn,hso⟩:=qV hc.1
   have hle:=Nat.le_of_ble_eq_true hc.2
   subst hw
   obtain⟨h2,h3⟩:=iY hso (eQ h1 hvr)
   simp only[ObR]at hr ⊢
   obtain⟨hkk,cur2,e2,fz2,hb2,_,_,hcs,hr⟩:=hr
   rw[hb]at hb2
   obtain⟨rfl,rfl,rfl⟩:=(Obj.cells.injEq ..).mp (Option.some.inj hb2)
   refine⟨hkk,_,e,fz,hnh,hun,by rw[hO2];exact hO,by rw[kh,cQ];exact hcs,fun k x hx=> ?_⟩
   by_cases hk:k<off∨off+n≤k
   ·rw[ez (by rw[hvl];exact hk)]
    have hx':cs[k]? =some x:=by
     rcases hk with hk|hk
     ·rw[eV c.cells off cs k hk]at hx;exact hx
     ·rw[fW c.cells off cs k (by omega)]at hx;exact hx
    exact bm hle2 x _ (hr k x hx')
   ·obtain⟨j,rfl⟩: ∃j,k=off+j:=⟨k-off,by omega⟩
    rw[fV (by omega) (by omega)]
    rw[iX c.cells off cs j (by omega) (by omega)]at hx
    obtain⟨u,hu1,hu2⟩:=(dU h2).2 j x hx
    rw[List.getD_eq_getElem?_getD,hu1]
    exact bm hle2 x _ hu2
 obtain⟨R1,hle,hT,hO1,hO2,hlv⟩:=R.setOb (s1:=s1) (μ1:=μ1) (o':=o') (cur':=bJ cur off cv.cells.toList) hl hb (cQ _ _ _) hfr hp hlen hμlen hH
  (fun G' w' hle hG hw' => ⟨fun e => by
    have hle':Le G w G w':=by rw[hG]at hle;exact hle
    rw[hG];exact hnew G' w' hle hG hw' G L s.lam.length (fun _ _=>rfl) rfl hle' (hobr.1 e) (hv.1 e),
   fun e=>by
    have hle':Le G w G w':=by rw[hG]at hle;exact hle
    rw[hG];exact hnew G' w' hle hG hw' (G.below lev) lev 0 (fun _ _=>rfl) rfl (hle'.below lev) (hobr.2 e) (hv.2 e)⟩)
  (fun cs' k b he hco => by
   rcases hcell cs' k b he hco with⟨h1,_⟩|⟨h1,h2⟩
   ·exact .inl h1
   ·refine .inr ⟨(hown b h2).1,(hown b h2).2.1,fun k' hk'=> ?_⟩
    rcases hcell cs' k' b he hk' with⟨h3,_⟩|⟨h3,_⟩
    ·exact absurd h3 ((hown b h2).1 _)
    ·omega)
 refine⟨R1,E.le.trans hle,E.os,E.tape,E.output,by simpa using E.size,fun b hb hn=> ?_,fun b hb=> ?_,E.lev⟩
 ·obtain⟨h1,h2⟩:=E.keep b hb hn
  refine⟨?_,h2⟩
  rw[←h1]
  refine setRow_other w _ b _ fun eb=> ?_
  subst eb
  rcases E.grow _ (.inr ⟨lev,i,hl,rfl⟩)with h|h
  ·exact hn h
  ·omega
 ·rcases hT b hb with h1|⟨cs',k,he,hco⟩
  ·exact E.grow b h1
  ·rcases hcell cs' k b he hco with⟨h1,_⟩|⟨_,h1⟩
   ·exact E.grow b (.inl ⟨_,h1⟩)
   ·exact(hown b h1).2.2
theorem Ql {t:TypeId}{x y:Operand}(ho:o.op= .store t x y)(R:Rel G L s μ a.tmps w)(hd: ∀d,o.dst=some d→d<a.tmps.size)(hk:KOK L G w s μ a o.dst k r K)
  (hop:gB P h t (evA h s.fr x) (evA h s.fr y) (ad h.take s) μ k=some r):o.wp P a w K Q:=by
 obtain⟨R1,E1,hO⟩:=dB R h.take
 have hl:=aU h.take s
 obtain⟨hv,hown⟩:=aZ R h y
 have hown': ∀b,aE (evA h s.fr y) (a.eval y) b→(∀l,¬ax G w (ad h.take s).fr a.tmps (μ++[(ad h.take s).lam]) l b)∧(∀lev i,aK (aD (μ++[(ad h.take s).lam]) lev i)→G.β lev i≠b)∧(az G w s μ a.tmps b∨w.heap.size≤b):=by
  intro b hb
  obtain⟨tt,ht,hot⟩:=hown b hb
  refine⟨fun l hl'=> ?_,fun lev i hlv=> ?_,.inl (.inl ⟨.fr tt,hot⟩)⟩
  ·obtain⟨a1,a2⟩:=hO l b hl'
   exact a1 tt ht (R.own l (.fr tt) b a2 hot)
  ·rw[hl.1]at hlv
   exact R.apart (.fr tt) b lev i hot hlv
 unfold gB at hop
 split at hop
 ·rename_i i off he
  have hx:=(aZ R h x).1
  rw[he]at hx
  simp only[LVR]at hx
  split at hop<;>try(simp at hop;done)
  rw[lg]at hop
  obtain⟨o',h1,h2⟩:=ab.1 hop
  obtain⟨w',hrun,R2,E2⟩:=R1.writeOb (P:=P) (s1:={ad h.take s with lam:=(ad h.take s).lam.set i o'}) (μ1:=μ) (lev:=L) (i:=i) (off:=off) (cv:=a.eval y) E1 (by rw[←R.lev];exact bZ) h1
   ⟨fun _=>by rw[hl.1];exact hv,fun e=>by omega⟩ hown' rfl rfl (by simp) rfl (by rw[←R.lev];exact ss.symm)
  obtain⟨R3,E3⟩:=cx (dst:=o.dst) (v:= .cv .undef) (cv:=undef) R2 E2 (by simp[LVR,VR]) (fun b hb=>by simp[aE]at hb) hd
  refine mA ?_ (hk _ _ _ _ w' G h2 R3 E3)
  simp only[execOp,ho,hx.2]
  refine Ji ?_
  simp only[Instr.storeAt,Instr.sureAddr,Sem.run_bind,Sem.run_pure,Result.andThen_ok,hrun]
 ·split at hop<;>try(simp at hop;done)
  obtain⟨q,hc,hop⟩:=ab.1 hop
  have hx:=cC R (nJ hc)
  simp only[VR]at hx
  obtain⟨hok,hop⟩:=aI.1 hop
  obtain⟨o',h1,h2⟩:=ab.1 hop
  have hq:q.1<μ.length:=by
   by_cases hq:q.1<μ.length
   ·exact hq
   ·simp only[a8]at h1
    rw[List.getElem?_eq_none (by omega)]at h1
    simp[bI]at h1
  obtain⟨w',hrun,R2,E2⟩:=R1.writeOb (P:=P) (s1:=ad h.take s) (μ1:=bD μ q.1 q.2.1 o') (lev:=q.1) (i:=q.2.1) (off:=q.2.2) (cv:=a.eval y) E1 (bz hq) h1
   ⟨fun e=>by rw[R.lev]at hq;omega,fun _=>JK hok hv⟩ hown' rfl rfl rfl ib.1 (lM hq).symm
  obtain⟨R3,E3⟩:=cx (dst:=o.dst) (v:= .cv .undef) (cv:=undef) R2 E2 (by simp[LVR,VR]) (fun b hb=>by simp[aE]at hb) hd
  refine mA ?_ (hk _ _ _ _ w' G h2 R3 E3)
  simp only[execOp,ho,hx.2]
  refine Ji ?_
  simp only[Instr.storeAt,Instr.sureAddr,Sem.run_bind,Sem.run_pure,Result.andThen_ok,hrun]
 ·simp at hop
end
end Go.Abs
set_option linter.unusedVariables false
set_option linter.unusedSimpArgs false
namespace Go.Abs
open Go
section
variable {P:Program}{ρ:Rho}{α:Type}{L:Nat}{G:Gh}{w:World}{s:S}{μ:Mu}{a:Act}{o:Oper}{h:OpHint}{k:LV→S→Mu→Option α}{p:CV→S→Mu→Option α}{r:α}{K:Act→World→Prop}{Q:Exit→Act→World→Prop}
theorem VRL_app: ∀{cs ds:List CV} {us vs:List Value},VRL G w cs us→VRL G w ds vs→VRL G w (cs++ds) (us++vs)
 |[],ds,us,vs,h,h'=>by simp only[VRL]at h;subst h;simpa using h'
 |c::cs,ds,us,vs,h,h'=>by
  simp only[VRL,List.cons_append]at h ⊢
  obtain⟨v,r,rfl,h1,h2⟩:=h
  exact⟨v,r++vs,rfl,h1,VRL_app h2 h'⟩
theorem te {b s:Nat}: ∀{off:Nat} {xs:List CV},EL G w b s off xs→(∀x∈xs,x.cells.length=s)→ ∃vs,VRL G w (xs.flatMap CV.cells) vs∧ ∀(j:Nat) v,vs[j]? =some v→w.cell? ⟨b,off+j,none⟩=some v∧off+j<G.O b
 |off,[],_,_=>⟨[],by simp[VRL],fun j v hv=>by simp at hv⟩
 |off,x::xs,h,hs=>by
  have hx:=zP h 0 x rfl
  have h2:EL G w b s (off+s) xs:=by
   have:=xO 1 h
   simpa using this
  obtain⟨vs,h3,h4⟩:=te h2 fun y hy=>hs y (List.mem_cons_of_mem _ hy)
  simp only[Nat.zero_mul,Nat.add_zero]at hx
  have hl:=hs x (by simp)
  have h5: ∃us,VRL G w x.cells us∧ ∀(j:Nat) v,us[j]? =some v→w.cell? ⟨b,off+j,none⟩=some v∧off+j<G.O b:=by
   obtain⟨us,h6,h7⟩:=xN hx
   refine⟨us,h6,fun j v hv=>⟨h7 j v hv,?_⟩⟩
   have hj:j<us.length:=(List.getElem?_eq_some_iff.1 hv).1
   have:=VRL_len h6
   obtain⟨v',_,h8,_⟩:=Aq hx j (getElem x.cells j (by omega)) (by simp)
   exact h8
  obtain⟨us,h6,h7⟩:=h5
  have hus:=VRL_len h6
  refine⟨us++vs,?_,fun j v hv=> ?_⟩
  ·simp only[List.flatMap_cons]
   exact VRL_app h6 h3
  ·by_cases hj:j<us.length
   ·rw[List.getElem?_append_left hj]at hv
    exact h7 j v hv
   ·rw[List.getElem?_append_right (by omega)]at hv
    have:=h4 (j-us.length) v hv
    rw[show off+s+(j-us.length)=off+j by omega]at this
    exact this
theorem ux: ∀{xs:List CV},(∀x∈xs,gQ x=true)→ ∀{vs:List Value},VRL G w (xs.flatMap CV.cells) vs→ ∀v∈vs,v.oneCell'=true
 |[],_,vs,h,v,hv=>by simp only[List.flatMap_nil,VRL]at h;subst h;simp at hv
 |x::xs,hs,vs,h,v,hv=>by
  have hx:=hs x (by simp)
  have key: ∀(cs ds:List CV) (vs:List Value),VRL G w (cs++ds) vs→ ∃us ws,vs=us++ws∧VRL G w cs us∧VRL G w ds ws:=by
   intro cs
   induction cs with
   |nil=>intro ds vs h;exact⟨[],vs,rfl,by simp[VRL],by simpa using h⟩
   |cons c cs ih=>
    intro ds vs h
    simp only[List.cons_append,VRL]at h
    obtain⟨v,r,rfl,h1,h2⟩:=h
    obtain⟨us,ws,rfl,h3,h4⟩:=ih ds r h2
    exact⟨v::us,ws,rfl,by simp only[VRL];exact⟨v,us,rfl,h1,h3⟩,h4⟩
  simp only[List.flatMap_cons]at h
  obtain⟨us,ws,rfl,h1,h2⟩:=key _ _ _ h
  rcases List.mem_append.1 hv with hv|hv
  ·unfold gQ at hx
   split at hx
   ·exact mr hx h1 v hv
   ·rename_i c hc
    have hcc:x.cells=[x]:=gX (by intro cs e;exact hc cs e)
    rw[hcc]at h1
    exact mr (cs:=[x]) (by simp only[gA,hx]) h1 v hv
  ·exact ux (fun y hy=>hs y (List.mem_cons_of_mem _ hy)) h2 v hv
structure Appends (P:Program) (w:World) (xt:TypeId) (y:Value) (size m:Nat) (news:List Value):Prop where
 type: ∃d,P.underlying xt=some d∧ ∀k,d≠ .int k
 len: ∀w',(Builtin.lenOf y).run P w'= .ok m w'
 cells: ∀w',w'.heap=w.heap→(Builtin.firstCells size m y).run P w'= .ok news.toArray w'
 size:news.length=m*size
theorem tV {t ty e xt:TypeId}{i:TypeInfo}{y:Value}{m:Nat}{news:List Value}(ht:P.underlying t=some (.slice e))(hi:P.info? e=some i)(A:Appends P w xt y i.size m news)
  {g sLen sCap:Nat} {cur:Array Value} {e':TypeId} {fz:Nat×Nat} (hg:w.heap[g]? =some (.cells cur e' fz)) (hfz:d7 cur fz) (h1: ∀u∈news,u.oneCell'=true) (hroom:sLen+m≤sCap) (hfit:sLen*i.size+news.length≤cur.size):
  (Builtin.append_ #[t,xt] ty #[.slice (some ⟨g,0,none⟩) sLen sCap,y]).run P w= .ok (.slice (some ⟨g,0,none⟩) (sLen+m) sCap) (w.setRow g (bJ cur (sLen*i.size) news)):=by
 obtain⟨d,hd,hni⟩:=A.type
 have hst:=kT (P:=P) g (sLen*i.size) e' fz news 0 cur w hg hfz (by simpa using hfit) h1
 have hf:=A.cells w rfl
 have hn:(match d with| .int _=>true|_=>false)=false:=by cases d<;>first|rfl|exact absurd rfl (hni _)
 simp only[Nat.add_zero]at hst
 simp[Builtin.append_,run_underlying ht,run_underlying hd,sizeOf,typeInfo,hi,A.len,hroom,hf,Addr.add_lit,hst,hn]
theorem tT {t ty e xt:TypeId}{i:TypeInfo}{z:Value}{y:Value}{m:Nat}{news:List Value}(ht:P.underlying t=some (.slice e))(hi:P.info? e=some i)(hz:i.zero=some z)(A:Appends P w xt y i.size m news)
  {v:Value} {b:Option Addr} {sLen sCap:Nat} {olds:List Value} (holds: ∀w',w'.heap=w.heap→(Builtin.firstCells i.size sLen (.slice b sLen sCap)).run P w'= .ok olds.toArray w')
  (hg:sCap<sLen+m) (h63:((sLen+m:Nat):Int)≤9223372036854775807) (hfit:Builtin.nextslicecap (sLen+m) sCap*i.bytes≤281474976710656):
  (Builtin.append_ #[t,xt] ty #[.slice b sLen sCap,y]).run P w=
   .ok (.slice (some ⟨w.heap.size,0,none⟩) (sLen+m) (grownCap w (sLen+m) sCap e))
    (w.drew.alloc (.cells (olds.toArray++news.toArray++Builtin.zeroCells z.cells (grownCap w (sLen+m) sCap e-(sLen+m))) e)):=by
 obtain⟨d,hd,hni⟩:=A.type
 have hn0:(match d with| .int _=>true|_=>false)=false:=by cases d<;>first|rfl|exact absurd rfl (hni _)
 have hn: ¬(sLen+m≤sCap):=by omega
 have h63': ¬(9223372036854775807<((sLen:Int)+(m:Int))):=by omega
 have h48': ¬(281474976710656<Builtin.nextslicecap (sLen+m) sCap*i.bytes):=by omega
 have hf:=A.cells w.drew rfl
 have hfo:=holds w.drew rfl
 simp[Builtin.append_,run_underlying ht,run_underlying hd,hn0,sizeOf,typeInfo,zeroValue,hi,hz,A.len,hn,h63',h48',Question.forced,hf,hfo,newRow,grownCap]
 congr 2
 apply Array.ext'
 simp[List.append_assoc]
theorem tU {t ty e xt:TypeId}{i:TypeInfo}{y:Value}(ht:P.underlying t=some (.slice e))(hi:P.info? e=some i)(A:Appends P w xt y i.size 0 []):
  (Builtin.append_ #[t,xt] ty #[.slice none 0 0,y]).run P w= .ok (.slice none 0 0) w:=by
 obtain⟨d,hd,hni⟩:=A.type
 have hn0:(match d with| .int _=>true|_=>false)=false:=by cases d<;>first|rfl|exact absurd rfl (hni _)
 simp[Builtin.append_,run_underlying ht,run_underlying hd,hn0,sizeOf,typeInfo,hi,A.len,A.cells w rfl]
theorem CT {G0:Gh}{w0:World}{T0:Nat→Prop}(R:Rel G L s μ a.tmps w)(E:Ext L T0 G0 w0 G w (az G w s μ a.tmps))(hd: ∀d,o.dst=some d→d<a.tmps.size)
  {t ty e xt:TypeId} {i:TypeInfo} {z:Value} {u y:Value} {m:Nat} {news:List Value} {xs ys:List CV} (ht:P.underlying t=some (.slice e)) (hi:P.info? e=some i) (hz:i.zero=some z) (hzs:z.cells.size=i.size)
  (hb1:1≤i.size) (hb2:i.bytes≤128) (A:Appends P w xt y i.size m news) (hy:VRL G w (ys.flatMap CV.cells) news) (hm:ys.length=m)
  (hxs: ∀x∈xs,x.cells.length=i.size∧gQ x=true) (hys: ∀x∈ys,x.cells.length=i.size∧gQ x=true) (hsm:xs.length+ys.length≤1099511627776) (hbt:(Nat.beq e 5||iU ys)=true)
  (hu:k7 G w xs u) (hown: ∀b,aE (.osl xs) u b→(∀l,¬ax G w s.fr a.tmps (μ++[s.lam]) l b)∧(∀lev i,aK (aD (μ++[s.lam]) lev i)→G.β lev i≠b)∧(T0 b∨w0.heap.size≤b)):
  ∃cv w' G',(Builtin.append_ #[t,xt] ty #[u,y]).run P w= .ok cv w'∧Rel G' L (s.put o.dst (.osl (xs++ys))) μ (a.put o.dst cv).tmps w'∧Ext L T0 G0 w0 G' w' (az G' w' (s.put o.dst (.osl (xs++ys))) μ (a.put o.dst cv).tmps):=by
 have hnl:news.length=ys.length*i.size:=by rw[A.size,hm]
 have hone: ∀u∈news,u.oneCell'=true:=ux (fun x hx=>(hys x hx).2) hy
 have grown: ∀(b:Option Addr) (cap:Nat) (olds:List Value),u= .slice b xs.length cap→cap<xs.length+m→ys≠[]→VRL G w (xs.flatMap CV.cells) olds→
   (∀w',w'.heap=w.heap→(Builtin.firstCells i.size xs.length (.slice b xs.length cap)).run P w'= .ok olds.toArray w')→
   ∃cv w' G',(Builtin.append_ #[t,xt] ty #[u,y]).run P w= .ok cv w'∧Rel G' L (s.put o.dst (.osl (xs++ys))) μ (a.put o.dst cv).tmps w'∧Ext L T0 G0 w0 G' w' (az G' w' (s.put o.dst (.osl (xs++ys))) μ (a.put o.dst cv).tmps):=by
  intro b cap olds hu' hcap hyne hox hol
  subst hu'
  have hmul:(xs.length+m)*i.bytes≤(xs.length+m)*128:=Nat.mul_le_mul_left _ hb2
  have hrun:=tT (P:=P) (w:=w) (ty:=ty) (v:=y) ht hi hz A hol hcap (by omega) (growslice_fits hcap (by omega))
  obtain⟨R2,hO2⟩:=R.drew
  have E2:Ext L T0 G0 w0 G w.drew (az G w.drew s μ a.tmps):=by
   refine E.drew.weaken (fun _ h=>h) fun b hb=> ?_
   rcases hb with⟨l,hb⟩|hb
   ·exact .inl ⟨l,hO2 l b hb⟩
   ·exact .inr hb
  have hge:=grownCap_ge w (xs.length+m) cap e
  have hcm:grownCap w (xs.length+m) cap e≤maxLen:=grownCap_le_maxLen w (xs.length+m) cap e (by unfold maxLen;omega)
  have hol2:=VRL_len hox
  have hfl:=m5 (fun x hx=>(hxs x hx).1)
  have hall: ∀x∈xs++ys,x.cells.length=i.size:=fun x hx=>by
   rcases List.mem_append.1 hx with hx|hx
   ·exact(hxs x hx).1
   ·exact(hys x hx).1
  have hlen:(xs++ys).length=xs.length+m:=by rw[List.length_append,hm]
  generalize hcur:olds.toArray++news.toArray++Builtin.zeroCells z.cells (grownCap w (xs.length+m) cap e-(xs.length+m))=cur at hrun
  have hcs:cur.size=grownCap w (xs.length+m) cap e*i.size:=by
   rw[←hcur]
   simp only[Array.size_append,List.size_toArray,size_zeroCells,hzs,hnl,←hol2,hfl,hm]
   rw[←Nat.add_mul,←Nat.add_mul]
   congr 1
   omega
  have hgetl: ∀(j:Nat) v,(olds++news)[j]? =some v→cur.getD j undef=v:=by
   intro j v hv
   have hj:j<(olds++news).length:=(List.getElem?_eq_some_iff.1 hv).1
   rw[←hcur,Array.getD_eq_getD_getElem?,←Array.getElem?_toList]
   simp only[Array.toList_append,List.append_assoc]
   rw[←List.append_assoc,List.getElem?_append_left (by simpa using hj),hv]
   rfl
  obtain ⟨G1, R3, E3⟩ := jc (o := o) (n := (xs ++ ys).length * i.size) (ob := .cells cur e) (v := .osl (xs ++ ys)) (cv := .slice (some ⟨w.heap.size, 0, none⟩) (xs.length + m) (grownCap w (xs.length + m) cap e)) R2 E2 hd (fun hle => by
   simp only[LVR]
   refine .inr ⟨w.heap.size,grownCap w (xs.length+m) cap e,cur,e,i.size,by rw[hlen],heap_alloc_new w.drew _,by omega,hcm,by omega,hall,fun h0=> ?_,?_,by rw[show w.heap.size=w.drew.heap.size from rfl,dc],C3 hbt hyne⟩
   ·have:=congrArg List.length h0
    rw[hlen]at this
    simp only[List.length_nil]at this
    omega
   ·have hvl:VRL G w ((xs++ys).flatMap CV.cells) (olds++news):=by
     rw[List.flatMap_append];exact VRL_app hox hy
    obtain⟨hl2,hg2⟩:=dU hvl
    refine EL_of (vs:=olds++news) hall (eG hl2 fun j c v hc hv=> ?_) fun j v hv=> ?_
    ·obtain⟨v',hv',hr⟩:=hg2 j c hc
     rw[hv]at hv'
     injection hv' with hv'
     subst hv'
     exact bm hle c v (bm (G:=G) (w:=w) (G':=G) (w':=w.drew) ⟨fun _ _ _ h hb=>⟨h,hb⟩,fun _ _ h=>⟨h,rfl,rfl⟩,fun _ _ _ h hc=>⟨h,hc⟩,fun b cur e fz h=>⟨cur,fz,h,rfl⟩⟩ c v hr)
    ·have hj:j<(olds++news).length:=(List.getElem?_eq_some_iff.1 hv).1
     have hj2:j<(xs++ys).length*i.size:=by
      rw[←m5 hall,hl2];exact hj
     have hj3:j<cur.size:=by
      rw[hcs]
      refine Nat.lt_of_lt_of_le hj2 (Nat.mul_le_mul_right _ ?_)
      omega
     rw[Nat.zero_add,show w.heap.size=w.drew.heap.size from rfl,dc]
     refine⟨?_,hj2⟩
     rw[cell_of_heap (heap_alloc_new w.drew (.cells cur e)) hj3,hgetl j v hv]) (fun b hb=>by simpa[aE]using hb.symm)
  exact⟨_,_,G1,hrun,R3,E3⟩
 rcases hu with⟨rfl,rfl⟩|⟨b,cap,cur,e',sz,hue,hb,hc1,hc2,hc3,hc4,hc5,hel,hO,hC⟩
 ·by_cases h0:m=0
  ·subst h0
   have hy0:ys=[]:=List.eq_nil_of_length_eq_zero hm
   subst hy0
   have hn0:news=[]:=List.eq_nil_of_length_eq_zero (by simpa using hnl)
   subst hn0
   have hrun:=tU (P:=P) (w:=w) (ty:=ty) ht hi A
   obtain⟨R2,E2⟩:=cx (dst:=o.dst) (v:= .osl []) (cv:= .slice none 0 0) R E (by simp only[LVR];exact .inl ⟨rfl,rfl⟩) (fun b hb=>by simp[aE]at hb) hd
   exact⟨_,_,G,hrun,R2,E2⟩
  ·exact grown none 0 [] rfl (by simp only[List.length_nil];omega) (fun h=>h0 (by subst h;simpa using hm.symm)) (by simp[VRL]) (fun w' _=>run_firstCells_none w' _ _ _ _)
 ·subst hue
  obtain⟨olds,hox,hoc⟩:=te hel hc4
  have hsz:xs=[]∨sz=i.size:=by
   cases xs with
   |nil=>exact .inl rfl
   |cons x xs=>exact .inr ((hc4 x (by simp)).symm.trans (hxs x (by simp)).1)
  have hol2:=VRL_len hox
  have hfl:=m5 (fun x hx=>(hxs x hx).1)
  by_cases hroom:xs.length+m≤cap
  ·
   have hcap0:xs=[]→m=0:=fun h=>by have:=hc5 h;subst h;simp only[List.length_nil]at hroom;omega
   have hfit:xs.length*i.size+news.length≤cur.size:=by
    rcases hsz with h0|h0
    ·have:=hcap0 h0
     subst h0
     rw[hnl,hm,this];simp
    ·subst h0
     rw[hnl,hm,←Nat.add_mul]
     exact Nat.le_trans (Nat.mul_le_mul_right _ hroom) hc3
   have hrun:=tV (P:=P) (w:=w) (ty:=ty) ht hi A hb (lT cur) hone hroom hfit
   obtain⟨ho1,ho2,ho3⟩:=hown b (by simp[aE])
   have hOb:G.O b=xs.length*i.size:=by
    rw[hO]
    rcases hsz with h0|h0
    ·subst h0;simp
    ·rw[h0]
   have hblk: ∀b',b'≠b→(w.setRow b (bJ cur (xs.length*i.size) news)).heap[b']? =w.heap[b']? :=fun b' h=>setRow_other w b b' _ h
   have hnh:=setRow_heap w b cur (bJ cur (xs.length*i.size) news) e' (0,0) hb
   have hle:Le G w (G.setO b ((xs++ys).length*i.size)) (w.setRow b (bJ cur (xs.length*i.size) news)):=by
    refine⟨fun b' es clk h hb'=> ?_,fun _ _ h=>⟨h,rfl,rfl⟩,fun b' off v h hc=> ?_,fun b' cur2 e2 fz2 h=> ?_⟩
    ·have hne:b'≠b:=fun e=>by subst e;rw[hb]at hb';cases hb'
     exact⟨by rw[bR hne];exact h,by rw[hblk b' hne];exact hb'⟩
    ·by_cases hne:b'=b
     ·subst hne
      rw[dc]
      refine⟨?_,?_⟩
      ·rw[hOb]at h
       refine Nat.lt_of_lt_of_le h (Nat.mul_le_mul_right _ ?_)
       simp
      ·rw[hOb]at h
       have hcur:off<cur.size:=by omega
       rw[cell_of_heap hb hcur]at hc
       rw[cell_of_heap hnh (by rw[cQ];exact hcur),ez (.inl h)]
       exact hc
     ·refine⟨by rw[bR hne];exact h,?_⟩
      rw[←hc]
      simp only[World.cell?]
      rw[hblk b' hne]
    ·by_cases hne:b'=b
     ·subst hne
      rw[hb]at h
      obtain⟨rfl,rfl,rfl⟩:=(Obj.cells.injEq ..).mp (Option.some.inj h)
      exact⟨_,_,hnh,cQ _ _ _⟩
     ·exact⟨cur2,fz2,by rw[hblk b' hne];exact h,rfl⟩
   have hTb: ∀b',fb G w s.fr a.tmps (μ++[s.lam]) b'→b'≠b:=by
    rintro b' (⟨l,hl⟩|⟨lev,j,hl,rfl⟩) e
    ·subst e;exact ho1 l hl
    ·exact ho2 lev j hl e
   obtain⟨R2,hO2⟩:=R.frame hle (fun b' hb'=>⟨hblk b' (hTb b' hb'),bR (hTb b' hb')⟩) (fun _ _ _=>⟨rfl,rfl⟩) rfl
   have E2:Ext L T0 G0 w0 (G.setO b ((xs++ys).length*i.size)) (w.setRow b (bJ cur (xs.length*i.size) news)) (az (G.setO b ((xs++ys).length*i.size)) (w.setRow b (bJ cur (xs.length*i.size) news)) s μ a.tmps):=by
    refine⟨E.le.trans hle,E.os,E.tape,E.output,by simpa using E.size,fun b' hb' hn=> ?_,fun b' hb'=> ?_,E.lev⟩
    ·obtain⟨h1,h2⟩:=E.keep b' hb' hn
     have hne:b'≠b:=fun e=>by
      subst e
      rcases ho3 with h|h
      ·exact hn h
      ·omega
     exact⟨(hblk b' hne).trans h1,(bR hne).trans h2⟩
    ·refine E.grow b' ?_
     rcases hb' with⟨l,hl⟩|hl
     ·exact .inl ⟨l,hO2 l b' hl⟩
     ·exact .inr hl
   have hlen:(xs++ys).length=xs.length+m:=by rw[List.length_append,hm]
   have hall: ∀x∈xs++ys,x.cells.length=i.size:=fun x hx=>by
    rcases List.mem_append.1 hx with hx|hx
    ·exact(hxs x hx).1
    ·exact(hys x hx).1
   have hvl:VRL G w ((xs++ys).flatMap CV.cells) (olds++news):=by
    rw[List.flatMap_append];exact VRL_app hox hy
   have hoL:olds.length=xs.length*i.size:=by rw[←hol2,hfl]
   obtain ⟨R3, E3⟩ := cx (dst := o.dst) (v := .osl (xs ++ ys)) (cv := .slice (some ⟨b, 0, none⟩) (xs.length + m) cap) R2 E2 (by
    simp only[LVR]
    refine .inr ⟨b,cap,_,e',i.size,by rw[hlen],hnh,by omega,hc2,?_,hall,fun h0=> ?_,?_,dc,fun hb1 hb2=>hC (qL xs ys hb1) fun hxn=>hb2 (by subst hxn;have:=hcap0 rfl;rw[List.nil_append];exact List.eq_nil_of_length_eq_zero (by omega))⟩
    ·rw[cQ]
     rcases hsz with h0|h0
     ·have:=hc5 h0
      rw[this];simp
     ·rw[←h0];exact hc3
    ·exact hc5 (List.append_eq_nil_iff.1 h0).1
    ·obtain⟨hl2,hg2⟩:=dU hvl
     refine EL_of (vs:=olds++news) hall (eG hl2 fun j c v hc hv=> ?_) fun j v hv=> ?_
     ·obtain⟨v',hv',hr⟩:=hg2 j c hc
      rw[hv]at hv'
      injection hv' with hv'
      subst hv'
      exact bm hle c v hr
     ·have hj:j<(olds++news).length:=(List.getElem?_eq_some_iff.1 hv).1
      have hj2:j<(xs++ys).length*i.size:=by rw[←m5 hall,hl2];exact hj
      rw[List.length_append]at hj
      rw[Nat.zero_add,dc]
      refine⟨?_,hj2⟩
      rw[cell_of_heap hnh (by rw[cQ];omega)]
      by_cases hjo:j<olds.length
      ·rw[List.getElem?_append_left hjo]at hv
       rw[ez (.inl (by omega))]
       have h1:=(hoc j v hv).1
       rw[Nat.zero_add,cell_of_heap hb (by omega)]at h1
       exact h1
      ·rw[List.getElem?_append_right (by omega)]at hv
       have:=fV (cur:=cur) (off:=xs.length*i.size) (vs:=news) (j:=j-olds.length) hfit (by omega)
       rw[show xs.length*i.size+(j-olds.length)=j by omega]at this
       rw[this,List.getD_eq_getElem?_getD,hv]
       rfl) (fun b' hb'=>by
    have:b=b':=by simpa[aE]using hb'
    subst this
    exact⟨fun l hl=>ho1 l (hO2 l b hl),fun lev j hl=>ho2 lev j hl,ho3⟩) hd
   exact⟨_,_,_,hrun,R3,E3⟩
  ·refine grown (some ⟨b,0,none⟩) cap olds rfl (by omega) (fun hyn=>by subst hyn;simp only[List.length_nil]at hm;omega) hox fun w' hw'=> ?_
   refine run_firstCells_some w' i.size xs.length ⟨b,0,none⟩ xs.length cap olds (by rw[←hol2,hfl]) fun j v hv=> ?_
   have:=(hoc j v hv).1
   rw[d8]
   simp only[World.cell?]at this ⊢
   rw[hw']
   exact this
theorem J7 {G0:Gh}{w0:World}{T0:Nat→Prop}(R:Rel G L s μ a.tmps w)(E:Ext L T0 G0 w0 G w (az G w s μ a.tmps))(hd: ∀d,o.dst=some d→d<a.tmps.size)
  {t ty e xt:TypeId} {i:TypeInfo} {z:Value} {u y:Value} {m:Nat} {news:List Value} {xs:List Value} (ht:P.underlying t=some (.slice e)) (hi:P.info? e=some i) (hz:i.zero=some z) (hzs:z.cells.size=i.size)
  (hs1:i.size=1) (hb2:i.bytes≤128) (A:Appends P w xt y i.size m news) (hone: ∀u∈news,u.oneCell'=true) (hsm:xs.length+news.length≤1099511627776)
  (hu:oD G w xs u) (hown: ∀b,aE (.ost xs) u b→(∀l,¬ax G w s.fr a.tmps (μ++[s.lam]) l b)∧(∀lev i,aK (aD (μ++[s.lam]) lev i)→G.β lev i≠b)∧(T0 b∨w0.heap.size≤b)):
  ∃cv w' G',(Builtin.append_ #[t,xt] ty #[u,y]).run P w= .ok cv w'∧Rel G' L (s.put o.dst (.ost (xs++news))) μ (a.put o.dst cv).tmps w'∧Ext L T0 G0 w0 G' w' (az G' w' (s.put o.dst (.ost (xs++news))) μ (a.put o.dst cv).tmps):=by
 have hm:news.length=m:=by rw[A.size,hs1,Nat.mul_one]
 have grown: ∀(b:Option Addr) (cap:Nat),u= .slice b xs.length cap→cap<xs.length+m→
   (∀w',w'.heap=w.heap→(Builtin.firstCells i.size xs.length (.slice b xs.length cap)).run P w'= .ok xs.toArray w')→
   ∃cv w' G',(Builtin.append_ #[t,xt] ty #[u,y]).run P w= .ok cv w'∧Rel G' L (s.put o.dst (.ost (xs++news))) μ (a.put o.dst cv).tmps w'∧Ext L T0 G0 w0 G' w' (az G' w' (s.put o.dst (.ost (xs++news))) μ (a.put o.dst cv).tmps):=by
  intro b cap hu' hcap hol
  subst hu'
  have hmul:(xs.length+m)*i.bytes≤(xs.length+m)*128:=Nat.mul_le_mul_left _ hb2
  have hrun:=tT (P:=P) (w:=w) (ty:=ty) (v:=y) ht hi hz A hol hcap (by omega) (growslice_fits hcap (by omega))
  obtain⟨R2,hO2⟩:=R.drew
  have E2:Ext L T0 G0 w0 G w.drew (az G w.drew s μ a.tmps):=by
   refine E.drew.weaken (fun _ h=>h) fun b hb=> ?_
   rcases hb with⟨l,hb⟩|hb
   ·exact .inl ⟨l,hO2 l b hb⟩
   ·exact .inr hb
  have hge:=grownCap_ge w (xs.length+m) cap e
  have hcm:grownCap w (xs.length+m) cap e≤maxLen:=grownCap_le_maxLen w (xs.length+m) cap e (by unfold maxLen;omega)
  have hlen:(xs++news).length=xs.length+m:=by rw[List.length_append,hm]
  generalize hcur:xs.toArray++news.toArray++Builtin.zeroCells z.cells (grownCap w (xs.length+m) cap e-(xs.length+m))=cur at hrun
  have hcs:cur.size=grownCap w (xs.length+m) cap e:=by
   rw[←hcur]
   simp only[Array.size_append,List.size_toArray,size_zeroCells,hzs,hs1,hm]
   omega
  have hgetl: ∀(j:Nat) v,(xs++news)[j]? =some v→cur.getD j undef=v:=by
   intro j v hv
   have hj:j<(xs++news).length:=(List.getElem?_eq_some_iff.1 hv).1
   rw[←hcur,Array.getD_eq_getD_getElem?,←Array.getElem?_toList]
   simp only[Array.toList_append,List.append_assoc]
   rw[←List.append_assoc,List.getElem?_append_left (by simpa using hj),hv]
   rfl
  obtain ⟨G1, R3, E3⟩ := jc (o := o) (n := 0) (ob := .cells cur e) (v := .ost (xs ++ news)) (cv := .slice (some ⟨w.heap.size, 0, none⟩) (xs.length + m) (grownCap w (xs.length + m) cap e)) R2 E2 hd (fun hle => by
   simp only[LVR]
   exact .inr ⟨w.heap.size,grownCap w (xs.length+m) cap e,cur,e,by rw[hlen],heap_alloc_new w.drew _,by omega,hcm,by omega,by rw[show w.heap.size=w.drew.heap.size from rfl,dc],hgetl⟩) (fun b hb=>by simpa[aE]using hb.symm)
  exact⟨_,_,G1,hrun,R3,E3⟩
 rcases hu with⟨rfl,rfl⟩|⟨b,cap,cur,e',hue,hb,hc1,hc2,hc3,hO,hC⟩
 ·by_cases h0:m=0
  ·subst h0
   have hn0:news=[]:=List.eq_nil_of_length_eq_zero hm
   subst hn0
   have hrun:=tU (P:=P) (w:=w) (ty:=ty) ht hi A
   obtain⟨R2,E2⟩:=cx (dst:=o.dst) (v:= .ost []) (cv:= .slice none 0 0) R E (by simp only[LVR];exact .inl ⟨rfl,rfl⟩) (fun b hb=>by simp[aE]at hb) hd
   exact⟨_,_,G,hrun,R2,E2⟩
  ·exact grown none 0 rfl (by simp only[List.length_nil];omega) (fun w' _=>run_firstCells_none w' _ _ _ _)
 ·subst hue
  by_cases hroom:xs.length+m≤cap
  ·have hfit:xs.length*i.size+news.length≤cur.size:=by rw[hs1,hm];omega
   have hrun:=tV (P:=P) (w:=w) (ty:=ty) ht hi A hb (lT cur) hone hroom hfit
   obtain⟨ho1,ho2,ho3⟩:=hown b (by simp[aE])
   have hblk: ∀b',b'≠b→(w.setRow b (bJ cur (xs.length*i.size) news)).heap[b']? =w.heap[b']? :=fun b' h=>setRow_other w b b' _ h
   have hnh:=setRow_heap w b cur (bJ cur (xs.length*i.size) news) e' (0,0) hb
   have hle:Le G w G (w.setRow b (bJ cur (xs.length*i.size) news)):=by
    refine⟨fun b' es clk h hb'=> ?_,fun _ _ h=>⟨h,rfl,rfl⟩,fun b' off v h hc=> ?_,fun b' cur2 e2 fz2 h=> ?_⟩
    ·have hne:b'≠b:=fun e=>by subst e;omega
     exact⟨h,by rw[hblk b' hne];exact hb'⟩
    ·have hne:b'≠b:=fun e=>by subst e;omega
     refine⟨h,?_⟩
     rw[←hc]
     simp only[World.cell?]
     rw[hblk b' hne]
    ·by_cases hne:b'=b
     ·subst hne
      rw[hb]at h
      obtain⟨rfl,rfl,rfl⟩:=(Obj.cells.injEq ..).mp (Option.some.inj h)
      exact⟨_,_,hnh,cQ _ _ _⟩
     ·exact⟨cur2,fz2,by rw[hblk b' hne];exact h,rfl⟩
   have hTb: ∀b',fb G w s.fr a.tmps (μ++[s.lam]) b'→b'≠b:=by
    rintro b' (⟨l,hl⟩|⟨lev,j,hl,rfl⟩) e
    ·subst e;exact ho1 l hl
    ·exact ho2 lev j hl e
   obtain⟨R2,hO2⟩:=R.frame hle (fun b' hb'=>⟨hblk b' (hTb b' hb'),rfl⟩) (fun _ _ _=>⟨rfl,rfl⟩) rfl
   have E2:Ext L T0 G0 w0 G (w.setRow b (bJ cur (xs.length*i.size) news)) (az G (w.setRow b (bJ cur (xs.length*i.size) news)) s μ a.tmps):=by
    refine⟨E.le.trans hle,E.os,E.tape,E.output,by simpa using E.size,fun b' hb' hn=> ?_,fun b' hb'=> ?_,E.lev⟩
    ·obtain⟨h1,h2⟩:=E.keep b' hb' hn
     have hne:b'≠b:=fun e=>by
      subst e
      rcases ho3 with h|h
      ·exact hn h
      ·omega
     exact⟨(hblk b' hne).trans h1,h2⟩
    ·refine E.grow b' ?_
     rcases hb' with⟨l,hl⟩|hl
     ·exact .inl ⟨l,hO2 l b' hl⟩
     ·exact .inr hl
   have hlen:(xs++news).length=xs.length+m:=by rw[List.length_append,hm]
   obtain ⟨R3, E3⟩ := cx (dst := o.dst) (v := .ost (xs ++ news)) (cv := .slice (some ⟨b, 0, none⟩) (xs.length + m) cap) R2 E2 (by
    simp only[LVR]
    refine .inr ⟨b,cap,_,e',by rw[hlen],hnh,by omega,hc2,by rw[cQ];exact hc3,hO,fun j v hv=> ?_⟩
    rw[hs1,Nat.mul_one]
    have hj:j<(xs++news).length:=(List.getElem?_eq_some_iff.1 hv).1
    by_cases hjo:j<xs.length
    ·rw[List.getElem?_append_left hjo]at hv
     rw[ez (.inl hjo)]
     exact hC j v hv
    ·rw[List.getElem?_append_right (by omega)]at hv
     rw[hlen]at hj
     have:=fV (cur:=cur) (off:=xs.length) (vs:=news) (j:=j-xs.length) (by omega) (by omega)
     rw[show xs.length+(j-xs.length)=j by omega]at this
     rw[this,List.getD_eq_getElem?_getD,hv]
     rfl) (fun b' hb'=>by
    have:b=b':=by simpa[aE]using hb'
    subst this
    exact⟨fun l hl=>ho1 l (hO2 l b hl),fun lev j hl=>ho2 lev j hl,ho3⟩) hd
   exact⟨_,_,_,hrun,R3,E3⟩
  ·refine grown (some ⟨b,0,none⟩) cap rfl (by omega) fun w' hw'=> ?_
   refine run_firstCells_some w' i.size xs.length ⟨b,0,none⟩ xs.length cap xs (by rw[hs1,Nat.mul_one]) fun j v hv=> ?_
   have hj:j<xs.length:=(List.getElem?_eq_some_iff.1 hv).1
   have:=cell_of_heap (w:=w) (j:=j) hb (by omega)
   rw[hC j v hv]at this
   rw[d8,Nat.zero_add]
   simp only[World.cell?]at this ⊢
   rw[hw']
   exact this
theorem wu {t e xt e':TypeId}{sz:Nat}{ys:List CV}{y:Value}(hu:P.underlying xt=some (.slice e'))(hv:VR G w (.sl ys) y)(hs: ∀x∈ys,x.cells.length=sz):
  ∃news,Appends P w xt y sz ys.length news∧VRL G w (ys.flatMap CV.cells) news:=by
 simp only[VR]at hv
 obtain⟨A,len,cap,rfl,rfl,hlc,hx⟩:=hv
 rcases hx with h0|⟨b,off,sz',rfl,hs',hel⟩
 ·have:ys=[]:=List.eq_nil_of_length_eq_zero h0
  subst this
  refine⟨[],⟨⟨_,hu,fun k=>by simp⟩,fun w'=>rfl,fun w' _=> ?_,by simp⟩,by simp[VRL]⟩
  cases A with
  |none=>exact run_firstCells_none w' _ _ _ _
  |some A=>simp[Builtin.firstCells,loadCells,loadCellsFrom]
 ·obtain⟨news,h1,h2⟩:=te hel hs'
  have hl:=VRL_len h1
  rw[m5 hs]at hl
  refine⟨news,⟨⟨_,hu,fun k=>by simp⟩,fun w'=>rfl,fun w' hw'=> ?_,hl.symm⟩,h1⟩
  refine run_firstCells_some w' sz ys.length _ _ _ news hl.symm fun j v hv=> ?_
  have:=(h2 j v hv).1
  rw[d8]
  simp only[World.cell?]at this ⊢
  rw[hw']
  exact this
theorem CU {xt:TypeId}{l:List UInt8}(hu:P.underlying xt=some .string):
  ∃news,Appends P w xt (.string ⟨⟨l⟩⟩) 1 l.length news∧VRL G w ((l.map fun(b:UInt8)=>CV.v (.int .u8 (b.toNat:Int))).flatMap CV.cells) news:=by
 refine⟨eB l,⟨⟨_,hu,fun k=>by simp⟩,fun w'=>rfl,fun w' _=> ?_,by simp[eB]⟩,?_⟩
 ·simp only[Builtin.firstCells]
  have:((⟨⟨l⟩⟩:ByteArray).extract 0 l.length).data=⟨l⟩:=by
   have h2:(⟨⟨l⟩⟩:ByteArray).extract 0 l.length=⟨⟨l⟩⟩:=by
    have:=ByteArray.extract_zero_size (b:=⟨⟨l⟩⟩)
    exact this
   rw[h2]
  rw[this]
  simp[eB]
 ·rw[p9]
  refine eG (by simp[eB]) fun j c v hc hv=> ?_
  simp only[eB,List.getElem?_map,Option.map_eq_some_iff]at hc hv
  obtain⟨b,hb,rfl⟩:=hc
  obtain⟨b',hb',rfl⟩:=hv
  rw[hb]at hb'
  injection hb' with hb'
  subst hb'
  simp[VR]
theorem A3 {e:TypeId}{i:TypeInfo}(hi:P.info? e=some i)(h:mC P e=true):i.bytes≤128∧1≤i.size:=by
 unfold mC at h
 rw[hi]at h
 simp only[Bool.and_eq_true]at h
 exact⟨Nat.le_of_ble_eq_true h.1,Nat.le_of_ble_eq_true h.2⟩
theorem Nr {x y:Operand}{c:Call}{t:TypeId}{ts:List TypeId}(ho:o.op= .call c)(hc:c.callee= .builtin .append)(hx:c.args.toList=[x,y])(ht:c.argTypes.toList=t::ts)(R:Rel G L s μ a.tmps w)(hd: ∀d,o.dst=some d→d<a.tmps.size)
  (hk:KOK L G w s μ a o.dst k r K) (hts:ts.length≤1) (hop:fg P h t ts.head? (evA h s.fr x) (evA h s.fr y) (ad h.take s) μ k=some r):o.wp P a w K Q:=by
 obtain⟨R1,E1,hO⟩:=dB R h.take
 have hl:=aU h.take s
 unfold fg at hop
 split at hop<;>try(simp at hop;done)
 rename_i e hu
 obtain⟨sz,hsz,hop1⟩:=ab.1 hop
 obtain⟨hby,hop2⟩:=aI.1 hop1
 obtain⟨zc,hz,hop3⟩:=ab.1 hop2
 obtain⟨hzl,hop4⟩:=aI.1 hop3
 clear hop hop1 hop2 hop3
 have hzl:=Nat.eq_of_beq_eq_true hzl
 cases hth:ts.head? with
 |none=>rw[hth]at hop4;simp at hop4
 |some xt=>
  rw[hth]at hop4
  have htl:ts=[xt]:=by
   cases ts with
   |nil=>simp at hth
   |cons q ts=>
    simp only[List.head?_cons,Option.some.injEq]at hth
    subst hth
    cases ts with
    |nil=>rfl
    |cons=>simp at hts
  subst htl
  have hargs:c.args= #[x,y]:=by cases ha:c.args;simp_all
  have htys:c.argTypes= #[t,xt]:=by cases ha:c.argTypes;simp_all
  obtain⟨i,hi,his⟩:=Jl hsz
  obtain⟨hb2,hb1⟩:=A3 hi hby
  obtain⟨z,i',hi',hiz,hzr,hzv⟩:=jh (P:=P) (G:=G) (w:=w) hz
  rw[hi]at hi'
  injection hi' with hi'
  subst hi'
  have hzs:z.cells.size=i.size:=by have:=VRL_len hzv;simp at this;omega
  cases hw:h.own with
  |true=>
   simp only[hw]at hop4
   obtain⟨xs,hxs,hop⟩:=ab.1 hop4
   clear hop4
   split at hop<;>try(simp at hop;done)
   rename_i e' hux
   obtain⟨ys,hys,hop⟩:=ab.1 hop
   obtain⟨vs,hvs,hop⟩:=ab.1 hop
   obtain⟨hg,hop⟩:=aI.1 hop
   simp only[Bool.and_eq_true,bd,decide_eq_true_eq]at hg
   obtain⟨hg1,hg2⟩:=hg
   have hg1:=Nat.eq_of_beq_eq_true hg1
   have h1:i.size=1:=by omega
   obtain⟨hys2,hys3⟩:=zA hvs
   have hv:=fu hys (aZ R h y).1
   have hcl: ∀x∈ys,x.cells.length=i.size:=fun x hx=>by
    rw[hys2]at hx
    obtain⟨y,_,rfl⟩:=List.mem_map.1 hx
    exact h1.symm
   obtain⟨news,hA,hn⟩:=wu (P:=P) (t:=t) (e:=e) hux hv hcl
   have hnv:news=vs:=by
    have hvv: ∀(l m:List Value),VRL G w (l.map CV.v) m→m=l:=fun l=>by
     induction l with
     |nil=>intro m hm;simpa[VRL]using hm
     |cons x l ih=>
      intro m hm
      simp only[List.map_cons,VRL,VR]at hm
      obtain⟨v,r,rfl,rfl,h2⟩:=hm
      rw[ih r h2]
    have hfm: ∀l:List Value,(l.map CV.v).flatMap CV.cells=l.map CV.v:=fun l=>by
     induction l with
     |nil=>rfl
     |cons x l ih=>simp only[List.map_cons,List.flatMap_cons,ih,CV.cells];rfl
    rw[hys2,hfm]at hn
    exact hvv vs news hn
   subst hnv
   obtain⟨hou,how⟩:=wM hxs (aZ R h x).1
   simp only[LVR]at hou
   have hown: ∀b,aE (.ost xs) (a.eval x) b→(∀l,¬ax G w (ad h.take s).fr a.tmps (μ++[(ad h.take s).lam]) l b)∧(∀lev i,aK (aD (μ++[(ad h.take s).lam]) lev i)→G.β lev i≠b)∧(az G w s μ a.tmps b∨w.heap.size≤b):=by
    intro b hb
    obtain⟨tt,htt,hot⟩:=(aZ R h x).2 b (how b hb)
    refine⟨fun l hl'=> ?_,fun lev i hlv=> ?_,.inl (.inl ⟨.fr tt,hot⟩)⟩
    ·obtain⟨a1,a2⟩:=hO l b hl'
     exact a1 tt htt (R.own l (.fr tt) b a2 hot)
    ·rw[hl.1]at hlv
     exact R.apart (.fr tt) b lev i hot hlv
   obtain⟨cv,w',G',hrun,R2,E2⟩:=J7 (P:=P) (o:=o) (ty:=o.type) R1 E1 hd hu hi hiz hzs h1 hb2 hA hys3 hg2 hou hown
   refine de ?_ (hk _ _ _ _ w' G' hop R2 E2)
   simp only[execOp,ho,resolve,hc,hargs,htys,Sem.run_bind,Sem.run_pure,Result.andThen_ok,invoke,builtin,List.map_toArray,List.map_cons,List.map_nil]
   rw[hrun];rfl
  |false=>
  simp only[hw]at hop4
  obtain⟨xs,hxs,hop⟩:=ab.1 hop4
  clear hop4
  obtain⟨hou,how⟩:=iz hxs (aZ R h x).1
  have hown: ∀b,aE (.osl xs) (a.eval x) b→(∀l,¬ax G w (ad h.take s).fr a.tmps (μ++[(ad h.take s).lam]) l b)∧(∀lev i,aK (aD (μ++[(ad h.take s).lam]) lev i)→G.β lev i≠b)∧(az G w s μ a.tmps b∨w.heap.size≤b):=by
   intro b hb
   obtain⟨tt,htt,hot⟩:=(aZ R h x).2 b (how b hb)
   refine⟨fun l hl'=> ?_,fun lev i hlv=> ?_,.inl (.inl ⟨.fr tt,hot⟩)⟩
   ·obtain⟨a1,a2⟩:=hO l b hl'
    exact a1 tt htt (R.own l (.fr tt) b a2 hot)
   ·rw[hl.1]at hlv
    exact R.apart (.fr tt) b lev i hot hlv
  have fin: ∀{ys:List CV} {m:Nat} {news:List Value},Appends P w xt (a.eval y) i.size m news→VRL G w (ys.flatMap CV.cells) news→ys.length=m→(∀x∈xs,x.cells.length=i.size∧gQ x=true)→(∀x∈ys,x.cells.length=i.size∧gQ x=true)→
    xs.length+ys.length≤1099511627776→(Nat.beq e 5||iU ys)=true→k (.osl (xs++ys)) (ad h.take s) μ=some r→o.wp P a w K Q:=by
   intro ys m news hA hyv hym hxa hya hsm hbt hkr
   obtain⟨cv,w',G',hrun,R2,E2⟩:=CT (P:=P) (o:=o) (ty:=o.type) R1 E1 hd hu hi hiz hzs hb1 hb2 hA hyv hym hxa hya hsm hbt hou hown
   refine de ?_ (hk _ _ _ _ w' G' hkr R2 E2)
   simp only[execOp,ho,resolve,hc,hargs,htys,Sem.run_bind,Sem.run_pure,Result.andThen_ok,invoke,builtin,List.map_toArray,List.map_cons,List.map_nil]
   rw[hrun];rfl
  split at hop
  ·rename_i hux
   obtain⟨l,hl2,hop⟩:=ab.1 hop
   obtain⟨hg,hop⟩:=aI.1 hop
   simp only[Bool.and_eq_true]at hg
   obtain⟨hg0,⟨hg1,hg2⟩,hg3⟩:=hg
   have hg1:=Nat.eq_of_beq_eq_true hg1
   simp only[bd,decide_eq_true_eq]at hg2
   have hyv:=cC R (fv hl2)
   simp only[VR]at hyv
   obtain⟨news,hA,hn⟩:=CU (P:=P) (G:=G) (w:=w) (l:=l) hux
   have h1:i.size=1:=by omega
   rw[←hyv,←h1]at hA
   refine fin hA hn (by simp) ?_ (fun x hx=> ?_) (by simpa using hg2) (by rw[hg0];rfl) hop
   ·rw[h1];exact iR hg3
   ·obtain⟨b,_,rfl⟩:=List.mem_map.1 hx
    exact⟨h1.symm,rfl⟩
  ·rename_i e' hux
   obtain⟨ys,hys,hop⟩:=ab.1 hop
   obtain⟨hg,hop⟩:=aI.1 hop
   simp only[fL,Bool.and_eq_true]at hg
   obtain⟨hg0,⟨hg1,hg2⟩,hg3⟩:=hg
   simp only[bd,decide_eq_true_eq]at hg1
   have hv:=fu hys (aZ R h y).1
   obtain⟨news,hA,hn⟩:=wu (P:=P) (t:=t) (e:=e) hux hv (fun x hx=>((iR hg3) x hx).1)
   rw[←his]at hA hg2 hg3
   exact fin hA hn rfl (iR hg2) (iR hg3) hg1 hg0 hop
  ·simp at hop
end
end Go.Abs
set_option linter.unusedVariables false
set_option linter.unusedSimpArgs false
namespace Go.Abs
open Go
def aN (args:List LV):S:=⟨dP (jA 0 args),[],false⟩
def Gh.withO (G:Gh)(O':Nat→Nat):Gh:={G with O:=O'}
def ff (L:Nat)(T:Nat→Prop)(G:Gh)(w:World):Out→Ending→World→Prop
 | .ret v μ',.returned cv,w'=> ∃O',Rel (G.withO O') L (aN [v]) μ' #[cv] w'∧Ext L T G w (G.withO O') w' (az (G.withO O') w' (aN [v]) μ' #[cv])
 | .panic v μ',.panicked ch,w'=> ∃O' pv,ch=[{v:=pv,recovered:=false}]∧VR (G.withO O') w' v pv∧Rel (G.withO O') L (aN []) μ' #[] w'∧
   Ext L T G w (G.withO O') w' (az (G.withO O') w' (aN []) μ' #[])
 |_,_,_=>False
def Kn (W0 w:World)(T:Nat→Prop):Prop:=W0.heap.size≤w.heap.size∧ ∀b,b<W0.heap.size→w.heap[b]? =W0.heap[b]? ∧ ¬T b
theorem Kn.ext {W0 w w':World}{T T':Nat→Prop}{L:Nat}{G G':Gh}(h:Kn W0 w T)(E:Ext L T G w G' w' T'):Kn W0 w' T':=by
 refine⟨Nat.le_trans h.1 E.size,fun b hb=> ?_⟩
 obtain⟨h1,h2⟩:=h.2 b hb
 have hlt:b<w.heap.size:=Nat.lt_of_lt_of_le hb h.1
 refine⟨(E.keep b hlt h2).1.trans h1,fun ht=> ?_⟩
 rcases E.grow b ht with h3|h3
 ·exact h2 h3
 ·omega
theorem Kn.mono {W0 w:World}{T T':Nat→Prop}(h:Kn W0 w T)(hT: ∀b,T' b→T b):Kn W0 w T':=⟨h.1,fun b hb=>⟨(h.2 b hb).1,fun ht=>(h.2 b hb).2 (hT b ht)⟩⟩
def cG (P:Program)(W0:World)(f:FuncId)(args:List LV)(μ:Mu)(out:Out):Prop:=
 (∃fn c,P.funcs[f]? =some fn∧fn.body=some c∧(fn.name == "runtime.NumGoroutine")=false)∧
 ∀(G:Gh) (w:World) (cargs:Array Value),cargs.size=args.length→Rel G μ.length (aN args) μ cargs w→Kn W0 w (az G w (aN args) μ cargs)→
  Calls P f cargs w (ff μ.length (az G w (aN args) μ cargs) G w out)
section
variable {G:Gh}{w w':World}{L:Nat}{μ μ':Mu}
theorem kN {lev i:Nat}(h:aK (aD (μ++[[]]) lev i)):lev<μ.length∧aD (μ++[[]]) lev i=a8 μ lev i:=by
 rcases Nat.lt_trichotomy lev μ.length with h1|h1|h1
 ·exact⟨h1,bz h1⟩
 ·subst h1
  simp only[aD,bZ,aH]at h
  simp[aK]at h
 ·simp only[aD,oW h1]at h
  exact h.elim
theorem fI {fr:Fr}{tm:Array Value}{H:Mu}{lev i k b:Nat}(h:ax G w fr tm H (.ob lev i k) b):aK (aD H lev i):=by
 simp only[ax]at h
 split at h
 ·rename_i cs hcs;rw[hcs];trivial
 ·exact h.elim
theorem ii {G':Gh}{fr fr':Fr}{tm tm':Array Value}{H H':Mu}{lev i k b:Nat}(ho:aD H' lev i=aD H lev i)(hβ:G'.β lev i=G.β lev i)(hb:w'.heap[G.β lev i]? =w.heap[G.β lev i]?)
  (h:ax G' w' fr' tm' H' (.ob lev i k) b):ax G w fr tm H (.ob lev i k) b:=by
 simp only[ax,ho,hβ,hb]at h ⊢
 exact h
theorem Rel.mergeU {s sr:S}{tm tmr:Array Value}{T:Nat→Prop}{O':Nat→Nat}(R:Rel G L s μ tm w)(hp:s.pushed=false)
  (hT: ∀b,T b→(∀t,¬aE (s.fr t) (tm.getD t undef) b)∧(∀i k,¬ax G w s.fr tm (μ++[s.lam]) (.ob L i k) b)∧ ∀i,aK (aH s.lam i)→G.β L i≠b)
  (hlam:sr.lam=[]) (Rc:Rel (G.withO O') L sr μ' tmr w') (E:Ext L T G w (G.withO O') w' (az (G.withO O') w' sr μ' tmr)):
  Rel (G.withO O') L s μ' tm w'∧
  (∀l b,ax (G.withO O') w' s.fr tm (μ'++[s.lam]) l b→(b<w.heap.size∧ ¬T b∧ax G w s.fr tm (μ++[s.lam]) l b)∨((∃lev i k,l= .ob lev i k)∧ax (G.withO O') w' sr.fr tmr (μ'++[sr.lam]) l b))∧
  (∀lev i,aK (aD (μ'++[s.lam]) lev i)→(G.β lev i<w.heap.size∧ ¬T (G.β lev i)∧lev=L∧aK (aD (μ++[s.lam]) lev i))∨aK (aD (μ'++[sr.lam]) lev i)):=by
 have hμ':=Rc.lev
 have hμ:=R.lev
 have hkeep: ∀b,b<w.heap.size→ ¬T b→w'.heap[b]? =w.heap[b]? ∧(G.withO O').O b=G.O b:=fun b hb hn=>E.keep b hb hn
 have hfrT: ∀t b,aE (s.fr t) (tm.getD t undef) b→b<w.heap.size∧ ¬T b:=fun t b hb=>⟨R.touch_lt (.inl ⟨.fr t,hb⟩),fun h=>(hT b h).1 t hb⟩
 have hobT: ∀i k b,ax G w s.fr tm (μ++[s.lam]) (.ob L i k) b→b<w.heap.size∧ ¬T b:=fun i k b hb=>⟨R.touch_lt (.inl ⟨_,hb⟩),fun h=>(hT b h).2.1 i k hb⟩
 have eL: ∀i,aD (μ++[s.lam]) L i=aH s.lam i:=fun i=>by rw[←hμ];exact bZ
 have eL': ∀i,aD (μ'++[s.lam]) L i=aH s.lam i:=fun i=>by rw[←hμ'];exact bZ
 have hβT: ∀i,aK (aH s.lam i)→G.β L i<w.heap.size∧ ¬T (G.β L i):=fun i hl=>⟨R.touch_lt (.inr ⟨L,i,by rw[eL];exact hl,rfl⟩),fun h=>(hT _ h).2.2 i hl rfl⟩
 have elt: ∀lev i,lev<L→aD (μ'++[s.lam]) lev i=aD (μ'++[sr.lam]) lev i:=fun lev i h=>by
  rw[aD,aD,bz (by omega),bz (by omega)]
 have hown: ∀l b,ax (G.withO O') w' s.fr tm (μ'++[s.lam]) l b→(b<w.heap.size∧ ¬T b∧ax G w s.fr tm (μ++[s.lam]) l b)∨((∃lev i k,l= .ob lev i k)∧ax (G.withO O') w' sr.fr tmr (μ'++[sr.lam]) l b):=by
  intro l b h
  cases l with
  |fr t=>exact .inl ⟨(hfrT t b h).1,(hfrT t b h).2,h⟩
  |ob lev i k=>
   have hl:=fI h
   rcases cJ hμ' hl with⟨h1,h2⟩|⟨rfl,h1,h2⟩
   ·exact .inr ⟨⟨_,_,_,rfl⟩,ii (elt lev i h1) rfl rfl h⟩
   ·have hl':aK (aH s.lam i):=by rw[←h2];exact hl
    have h3:ax G w s.fr tm (μ++[s.lam]) (.ob lev i k) b:=ii (fr':=s.fr) (tm':=tm) (by rw[eL,eL']) rfl (hkeep _ (hβT i hl').1 (hβT i hl').2).1 h
    exact .inl ⟨(hobT i k b h3).1,(hobT i k b h3).2,h3⟩
 have hlive: ∀lev i,aK (aD (μ'++[s.lam]) lev i)→(G.β lev i<w.heap.size∧ ¬T (G.β lev i)∧lev=L∧aK (aD (μ++[s.lam]) lev i))∨aK (aD (μ'++[sr.lam]) lev i):=by
  intro lev i hl
  rcases cJ hμ' hl with⟨h1,h2⟩|⟨rfl,h1,h2⟩
  ·exact .inr (by rw[←elt lev i h1];exact hl)
  ·have hl':aK (aH s.lam i):=by rw[←h2];exact hl
   exact .inl ⟨(hβT i hl').1,(hβT i hl').2,rfl,by rw[eL];exact hl'⟩
 have hTr: ∀b,az (G.withO O') w' sr μ' tmr b→T b∨w.heap.size≤b:=E.grow
 refine⟨⟨hμ',fun t=> ?_,fun i=> ?_,Rc.mu,fun lev i lev' i' h h' e=> ?_,fun l l' b h h'=> ?_,fun l b lev i h h' e=> ?_,Rc.nlt,R.nL,R.ngt⟩,hown,hlive⟩
 ·exact cY E.le (Nat.le_refl _) (fun _ _=>⟨rfl,rfl⟩) _ _ (fun b hb=>hkeep b (hfrT t b hb).1 (hfrT t b hb).2) (R.fr t)
 ·refine cH E.le (Nat.le_refl _) (fun _ _=>⟨rfl,rfl⟩) (fun hl=>hkeep _ (hβT i hl).1 (hβT i hl).2) (fun cs j x cur e fz ho hx hb b' hb'=> ?_) (R.lam i)
  have h3:ax G w s.fr tm (μ++[s.lam]) (.ob L i j) b':=by
   simp only[ax,eL,ho,hx]
   exact⟨cur,e,fz,hb,hb'⟩
  exact hkeep b' (hobT i j b' h3).1 (hobT i j b' h3).2
 ·rcases hlive lev i h with⟨h1,h2,rfl,h3⟩|h1<;>rcases hlive lev' i' h' with⟨h1',h2',rfl,h3'⟩|h1'
  ·exact R.inj _ i _ i' h3 h3' e
  ·exfalso
   have e':G.β lev i=G.β lev' i':=e
   rw[e']at h1 h2
   rcases hTr (G.β lev' i') (.inr ⟨lev',i',h1',rfl⟩)with hh|hh
   ·exact h2 hh
   ·omega
  ·exfalso
   have e':G.β lev i=G.β lev' i':=e
   rw[←e']at h1' h2'
   rcases hTr (G.β lev i) (.inr ⟨lev,i,h1,rfl⟩)with hh|hh
   ·exact h2' hh
   ·omega
  ·exact Rc.inj lev i lev' i' h1 h1' e
 ·rcases hown l b h with⟨h1,h2,h3⟩|⟨⟨_,_,_,rfl⟩,h3⟩<;>rcases hown l' b h' with⟨h1',h2',h3'⟩|⟨⟨_,_,_,rfl⟩,h3'⟩
  ·exact R.own l l' b h3 h3'
  ·exfalso
   rcases hTr b (.inl ⟨_,h3'⟩)with hh|hh
   ·exact h2 hh
   ·omega
  ·exfalso
   rcases hTr b (.inl ⟨_,h3⟩)with hh|hh
   ·exact h2' hh
   ·omega
  ·exact Rc.own _ _ b h3 h3'
 ·have e':G.β lev i=b:=e
  rcases hown l b h with⟨h1,h2,h3⟩|⟨⟨_,_,_,rfl⟩,h3⟩<;>rcases hlive lev i h' with⟨h1',h2',rfl,h3'⟩|h3'
  ·exact R.apart l b lev i h3 h3' e'
  ·rcases hTr b (.inr ⟨lev,i,h3',e'⟩)with hh|hh
   ·exact h2 hh
   ·omega
  ·subst e'
   rcases hTr _ (.inl ⟨_,h3⟩)with hh|hh
   ·exact h2' hh
   ·omega
  ·exact Rc.apart _ b lev i h3 h3' e'
theorem sq: ∀(args:List LV) (n t:Nat),dP (jA n args) t=if n≤t then(args[t-n]?).getD (.cv .undef)else .cv .undef
 |[],n,t=>by simp[jA,dP]
 |v::r,n,t=>by
  simp only[jA,dP]
  split
  ·rename_i h
   have:=Nat.eq_of_beq_eq_true h
   subst this
   simp
  ·rename_i h
   have hne:t≠n:=fun e=>by subst e;simp[Nat.beq_refl]at h
   rw[sq r (n+1) t]
   by_cases h1:n+1≤t
   ·rw[if_pos h1,if_pos (by omega),show t-n=(t-(n+1))+1 by omega]
    simp
   ·rw[if_neg h1,if_neg (by omega)]
theorem cz (args:List LV)(t:Nat):(aN args).fr t=(args[t]?).getD (.cv .undef):=by
 simp only[aN,sq,Nat.zero_le,if_true,Nat.sub_zero]
theorem Cj {nl nl' L':Nat}{x:LV}{v:Value}(hx:ij x=true)(h:LVR G w L nl x v):LVR G w L' nl' x v:=by
 cases x<;>simp only[ij,Bool.false_eq_true]at hx<;>simpa[LVR]using h
theorem Rel.enterU {s:S}{tm cargs:Array Value}{args:List LV}(R:Rel G L s μ tm w)(hp:s.pushed=false)(hv: ∀j x,args[j]? =some x→ij x=true∧LVR G w L s.lam.length x (cargs.getD j undef))
  (ho: ∀j x b,args[j]? =some x→aE x (cargs.getD j undef) b→(∃t,aE (s.fr t) (tm.getD t undef) b)∧ ∀j' x',args[j']? =some x'→aE x' (cargs.getD j' undef) b→j'=j):
  Rel G L (aN args) μ cargs w∧
  (∀l b,ax G w (aN args).fr cargs (μ++[(aN args).lam]) l b→(∃j x,l= .fr j∧args[j]? =some x∧aE x (cargs.getD j undef) b)∨(∃lev i k,l= .ob lev i k∧lev<L∧ax G w s.fr tm (μ++[s.lam]) l b))∧
  (∀lev i,aK (aD (μ++[(aN args).lam]) lev i)→lev<L∧aK (aD (μ++[s.lam]) lev i)):=by
 have hμ:=R.lev
 have hlive: ∀lev i,aK (aD (μ++[(aN args).lam]) lev i)→lev<L∧aK (aD (μ++[s.lam]) lev i):=by
  intro lev i h
  obtain⟨h1,h2⟩:=kN h
  refine⟨by omega,?_⟩
  have h3:aD (μ++[s.lam]) lev i=a8 μ lev i:=bz h1
  rw[h3,←h2];exact h
 have hown: ∀l b,ax G w (aN args).fr cargs (μ++[(aN args).lam]) l b→(∃j x,l= .fr j∧args[j]? =some x∧aE x (cargs.getD j undef) b)∨(∃lev i k,l= .ob lev i k∧lev<L∧ax G w s.fr tm (μ++[s.lam]) l b):=by
  intro l b h
  cases l with
  |fr t=>
   simp only[ax,cz]at h
   cases hx:args[t]? with
   |none=>rw[hx]at h;simp[aE]at h
   |some x=>rw[hx]at h;exact .inl ⟨t,x,rfl,hx,h⟩
  |ob lev i k=>
   have hl:=fI h
   obtain⟨h1,h2⟩:=kN hl
   refine .inr ⟨lev,i,k,rfl,by omega,ii (fr':=(aN args).fr) (tm':=cargs) ?_ rfl rfl h⟩
   rw[show aD (μ++[(aN args).lam]) lev i=a8 μ lev i from h2]
   exact(bz h1).symm
 refine⟨⟨hμ,fun t=> ?_,fun i=> ?_,R.mu,fun lev i lev' i' h h' e=>R.inj lev i lev' i' (hlive lev i h).2 (hlive lev' i' h').2 e,fun l l' b h h'=> ?_,fun l b lev i h h' e=> ?_,R.nlt,?_,R.ngt⟩,hown,hlive⟩
 ·rw[cz]
  cases hx:args[t]? with
  |none=>simp[LVR,VR]
  |some x=>exact Cj (hv t x hx).1 (hv t x hx).2
 ·have:aH (aN args).lam i= .dead:=by simp[aN,aH]
  rw[this];trivial
 ·rcases hown l b h with⟨j,x,rfl,hx,hox⟩|⟨lev,i,k,rfl,hlt,h1⟩<;>rcases hown l' b h' with⟨j',x',rfl,hx',hox'⟩|⟨lev',i',k',rfl,hlt',h1'⟩
  ·rw[(ho j x b hx hox).2 j' x' hx' hox']
  ·obtain⟨t,ht⟩:=(ho j x b hx hox).1
   exact absurd (R.own (.fr t) _ b ht h1') (by simp)
  ·obtain⟨t,ht⟩:=(ho j' x' b hx' hox').1
   exact absurd (R.own (.fr t) _ b ht h1) (by simp)
  ·exact R.own _ _ b h1 h1'
 ·rcases hown l b h with⟨j,x,rfl,hx,hox⟩|⟨lev',i',k,rfl,hlt,h1⟩
  ·obtain⟨t,ht⟩:=(ho j x b hx hox).1
   exact R.apart (.fr t) b lev i ht (hlive lev i h').2 e
  ·exact R.apart _ b lev i h1 (hlive lev i h').2 e
 ·have:=R.nL
  rw[hp]at this
  simpa[aN]using this
end
end Go.Abs
set_option linter.unusedVariables false
set_option linter.unusedSimpArgs false
namespace Go.Abs
open Go
section
variable {P:Program}{W0:World}{ρ:Rho}{α:Type}{L:Nat}{G:Gh}{w:World}{s:S}{μ:Mu}{a:Act}{o:Oper}{h:OpHint}{k:LV→S→Mu→Option α}{p:CV→S→Mu→Option α}{r:α}{K:Act→World→Prop}{Q:Exit→Act→World→Prop}
theorem yS {h:OpHint}{x:Operand}{b:Nat}(ho:aE (evA h s.fr x) (a.eval x) b): ∃t,x= .tmp t∧t∈h.take∧aE (s.fr t) (a.tmps.getD t undef) b:=by
 cases x with
 |tmp t=>
  simp only[evA,Act.eval]at ho
  cases ht:kK h.take t with
  |true=>rw[ht]at ho;exact⟨t,rfl,ji.1 ht,ho⟩
  |false=>rw[ht]at ho;exact absurd ho ir
 |const c=>exact absurd ho wo
 |global g=>simp[evA,aE]at ho
 |func f=>simp[evA,aE]at ho
theorem vM: ∀{l:List Operand} {t j:Nat},l[j]? =some (.tmp t)→vL t l=true
 |[],t,j,h=>by simp at h
 |x::r,t,0,h=>by
  simp only[List.getElem?_cons_zero,Option.some.injEq]at h
  subst h
  simp[vL,Nat.beq_refl]
 |x::r,t,j+1,h=>by
  have ih:=vM (l:=r) (t:=t) (j:=j) (by simpa using h)
  cases x<;>simp only[vL,ih]
  split<;>rfl
theorem kE {x:Operand}{r:List Operand}(h:fp (x::r)=true):fp r=true∧ ∀t,x= .tmp t→vL t r=false:=by
 cases x<;>simp only[fp]at h
 ·rename_i t
  split at h
  ·simp at h
  ·rename_i hm
   exact⟨h,fun u e=>by injection e with e;subst e;simpa using hm⟩
 all_goals exact⟨h,fun t e=>by cases e⟩
theorem qN: ∀{l:List Operand},fp l=true→ ∀{t j j':Nat},l[j]? =some (.tmp t)→l[j']? =some (.tmp t)→j=j'
 |[],_,t,j,j',h,_=>by simp at h
 |x::r,hd,t,0,0,_,_=>rfl
 |x::r,hd,t,0,j'+1,h,h'=>by
  simp only[List.getElem?_cons_zero,Option.some.injEq]at h
  have:=vM (l:=r) (t:=t) (j:=j') (by simpa using h')
  rw[(kE hd).2 t h]at this
  cases this
 |x::r,hd,t,j+1,0,h,h'=>by
  simp only[List.getElem?_cons_zero,Option.some.injEq]at h'
  have:=vM (l:=r) (t:=t) (j:=j) (by simpa using h)
  rw[(kE hd).2 t h']at this
  cases this
 |x::r,hd,t,j+1,j'+1,h,h'=>by
  have:=qN (kE hd).1 (t:=t) (j:=j) (j':=j') (by simpa using h) (by simpa using h')
  omega
theorem qS: ∀{l:List LV},fw l=true→ ∀{j:Nat} {x:LV},l[j]? =some x→ij x=true
 |[],_,j,x,h=>by simp at h
 |y::r,hp,j,x,h=>by
  simp only[fw]at hp
  split at hp<;>try(simp at hp;done)
  cases j with
  |zero=>simp only[List.getElem?_cons_zero,Option.some.injEq]at h;subst h;assumption
  |succ j=>exact qS hp (by simpa using h)
theorem Calls.mono {f:FuncId}{args:Array Value}{R R':Ending→World→Prop}(h:Calls P f args w R)(hR: ∀e w',R e w'→R' e w'):Calls P f args w R':=by
 intro cs
 obtain⟨e,w',fr,h1,h2⟩:=h cs
 exact⟨e,w',fr,hR e w' h1,h2⟩
structure ArgsR (G:Gh) (w:World) (L:Nat) (s:S) (tm:Array Value) (ts:List Nat) (args:List LV) (cargs:Array Value):Prop where
 size:cargs.size=args.length
 val: ∀j x,args[j]? =some x→LVR G w L s.lam.length x (cargs.getD j undef)
 own: ∀j x b,args[j]? =some x→aE x (cargs.getD j undef) b→(∃t,t∈ts∧aE (s.fr t) (tm.getD t undef) b)∧ ∀j' x',args[j']? =some x'→aE x' (cargs.getD j' undef) b→j'=j
theorem Np (R:Rel G L s μ a.tmps w){h:OpHint}{l:List Operand}(hd:fp l=true){caps:List LV}{vs:List Value}(hc:bV G w L s.lam.length caps vs):
  ArgsR G w L s a.tmps h.take (l.map (evA h s.fr)++caps) (l.map a.eval++vs).toArray:=by
 obtain⟨hcl,hcg⟩:=pm hc
 have hgl: ∀j x,(l.map (evA h s.fr)++caps)[j]? =some x→(j<l.length∧ ∃y,l[j]? =some y∧x=evA h s.fr y∧(l.map a.eval++vs).toArray.getD j undef=a.eval y)∨
   (LVR G w L s.lam.length x ((l.map a.eval++vs).toArray.getD j undef)∧nM x=false):=by
  intro j x hx
  by_cases hj:j<l.length
  ·left
   rw[List.getElem?_append_left (by simpa using hj)]at hx
   simp only[List.getElem?_map,Option.map_eq_some_iff]at hx
   obtain⟨y,hy,rfl⟩:=hx
   refine⟨hj,y,hy,rfl,?_⟩
   simp only[Array.getD_eq_getD_getElem?,List.getElem?_toArray]
   rw[List.getElem?_append_left (by simpa using hj)]
   simp[hy]
  ·right
   rw[List.getElem?_append_right (by simp;omega)]at hx
   obtain⟨v,hv,h1,h2⟩:=hcg _ x hx
   refine⟨?_,h2⟩
   simp only[Array.getD_eq_getD_getElem?,List.getElem?_toArray]
   rw[List.getElem?_append_right (by simp;omega)]
   simp only[List.length_map]at hv ⊢
   rw[hv];exact h1
 refine⟨by simp[hcl],fun j x hx=> ?_,fun j x b hx ho=> ?_⟩
 ·rcases hgl j x hx with⟨_,y,_,rfl,e⟩|⟨h1,_⟩
  ·rw[e];exact(aZ R h y).1
  ·exact h1
 ·rcases hgl j x hx with⟨_,y,hy,rfl,e⟩|⟨_,h2⟩
  ·rw[e]at ho
   obtain⟨t,rfl,ht,hot⟩:=yS (a:=a) ho
   refine⟨⟨t,ht,hot⟩,fun j' x' hx' ho'=> ?_⟩
   rcases hgl j' x' hx' with⟨_,y',hy',rfl,e'⟩|⟨_,h2⟩
   ·rw[e']at ho'
    obtain⟨t',rfl,ht',hot'⟩:=yS (a:=a) ho'
    have:=R.own (.fr t) (.fr t') b hot hot'
    injection this with this
    subst this
    exact qN hd hy' hy
   ·exact absurd ho' (mN h2)
  ·exact absurd ho (mN h2)
theorem Nt {f:FuncId}{args:List LV}{cargs:Array Value}(R:Rel G L s μ a.tmps w)(hd: ∀d,o.dst=some d→d<a.tmps.size)(hk:KOK L G w s μ a o.dst k r K)(hpk:POK L G w s μ a p r Q)
  (hrho: ∀f args μ out,ρ.call f args μ=some out→cG P W0 f args μ out) (hkn:Kn W0 w (az G w s μ a.tmps)) (hp:s.pushed=false) (hpl:fw args=true) (A:ArgsR G w L s a.tmps h.take args cargs)
  (hrun:(∃fn c,P.funcs[f]? =some fn∧fn.body=some c∧(fn.name == "runtime.NumGoroutine")=false)→(execOp a.eval o).run P w= .ok (.enter f cargs) w)
  (hop:callK (ρ.call f args μ) (fun v μ=>dy P h.own o.type v fun v=>k v (ad h.take s) μ) (fun v μ=>p v (ad h.take s) μ)=some r):o.wp P a w K Q:=by
 obtain⟨out,hout,hop⟩:=ab.1 hop
 obtain⟨hfn,hM⟩:=hrho _ _ _ _ hout
 have hμ:=R.lev
 obtain⟨R1,E1,hO⟩:=dB R h.take
 have hl:=aU h.take s
 obtain⟨Re,hown,hlive⟩:=R.enterU (tm:=a.tmps) (args:=args) (cargs:=cargs) hp (fun j x hx=>⟨qS hpl hx,A.val j x hx⟩) (fun j x b hx ho=>⟨(A.own j x b hx ho).1.imp fun t h=>h.2,(A.own j x b hx ho).2⟩)
 have hT: ∀b,az G w (aN args) μ cargs b→(∀t,¬aE ((ad h.take s).fr t) (a.tmps.getD t undef) b)∧(∀i k,¬ax G w (ad h.take s).fr a.tmps (μ++[(ad h.take s).lam]) (.ob L i k) b)∧ ∀i,aK (aH (ad h.take s).lam i)→G.β L i≠b:=by
  have eL: ∀i,aD (μ++[s.lam]) L i=aH s.lam i:=fun i=>by rw[←hμ];exact bZ
  rintro b (⟨l,hb⟩|⟨lev,i,hb,rfl⟩)
  ·rcases hown l b hb with⟨j,x,rfl,hx,ho⟩|⟨lev,i,k,rfl,hlt,ho⟩
   ·obtain⟨⟨u,hu,hou⟩,_⟩:=A.own j x b hx ho
    refine⟨fun t ht=> ?_,fun i k hik=> ?_,fun i hi=> ?_⟩
    ·obtain⟨a1,a2⟩:=hO (.fr t) b ht
     exact a1 u hu (R.own _ (.fr u) b a2 hou)
    ·obtain⟨a1,a2⟩:=hO _ b hik
     exact a1 u hu (R.own _ (.fr u) b a2 hou)
    ·rw[hl.1]at hi
     exact R.apart (.fr u) b L i hou (by rw[eL];exact hi)
   ·refine⟨fun t ht=> ?_,fun i' k' hik=> ?_,fun i' hi=> ?_⟩
    ·have:=R.own _ _ b (hO (.fr t) b ht).2 ho
     cases this
    ·have:=R.own _ _ b (hO _ b hik).2 ho
     injection this with h1 h2 h3
     omega
    ·rw[hl.1]at hi
     exact R.apart _ b L i' ho (by rw[eL];exact hi)
  ·obtain⟨hlt,hl2⟩:=hlive lev i hb
   refine⟨fun t ht=>R.apart _ _ lev i (hO (.fr t) _ ht).2 hl2 rfl,fun i' k' hik=>R.apart _ _ lev i (hO _ _ hik).2 hl2 rfl,fun i' hi e=> ?_⟩
   rw[hl.1]at hi
   have:=(R.inj L i' lev i (by rw[eL];exact hi) hl2 e).1
   omega
 have hT0: ∀b,az G w (aN args) μ cargs b→az G w s μ a.tmps b:=by
  rintro b (⟨l,hb⟩|⟨lev,i,hb,rfl⟩)
  ·rcases hown l b hb with⟨j,x,rfl,hx,ho⟩|⟨lev,i,k,rfl,hlt,ho⟩
   ·obtain⟨⟨u,hu,hou⟩,_⟩:=A.own j x b hx ho
    exact .inl ⟨.fr u,hou⟩
   ·exact .inl ⟨_,ho⟩
  ·exact .inr ⟨lev,i,(hlive lev i hb).2,rfl⟩
 have hcall:=hM G w cargs A.size (by rw[hμ];exact Re) (hkn.mono hT0)
 rw[hμ]at hcall
 unfold Oper.wp
 rw[hrun hfn,Oper.upon_enter]
 refine hcall.mono fun e w' hR=> ?_
 have merge: ∀{O':Nat→Nat} {sr:S} {μ':Mu} {tmr:Array Value},sr.lam=[]→Rel (G.withO O') L sr μ' tmr w'→Ext L (az G w (aN args) μ cargs) G w (G.withO O') w' (az (G.withO O') w' sr μ' tmr)→
   Rel (G.withO O') L (ad h.take s) μ' a.tmps w'∧Ext L (az G w s μ a.tmps) G w (G.withO O') w' (az (G.withO O') w' (ad h.take s) μ' a.tmps)∧
   (∀b,az (G.withO O') w' sr μ' tmr b→(az G w s μ a.tmps b∨w.heap.size≤b))∧
   (∀ t b, ax (G.withO O') w' sr.fr tmr (μ' ++ [sr.lam]) (.fr t) b → (∀ l, ¬ ax (G.withO O') w' (ad h.take s).fr a.tmps (μ' ++ [(ad h.take s).lam]) l b) ∧
    ∀lev i,aK (aD (μ'++[(ad h.take s).lam]) lev i)→(G.withO O').β lev i≠b):=by
  intro O' sr μ' tmr hlam Rc E
  obtain⟨R2,h2,h3⟩:=R1.mergeU (by rw[hl.2];exact hp) hT hlam Rc E
  have hin: ∀b,az (G.withO O') w' sr μ' tmr b→(az G w s μ a.tmps b∨w.heap.size≤b):=fun b hb=>(E.grow b hb).imp (hT0 b) id
  refine⟨R2,⟨E.le,E.os,E.tape,E.output,E.size,fun b hb hn=>E.keep b hb fun hh=>hn (hT0 b hh),fun b hb=> ?_,E.lev⟩,hin,fun t b hb=>⟨fun l hl'=> ?_,fun lev i hli e=> ?_⟩⟩
  ·rcases hb with⟨l,hb⟩|⟨lev,i,hb,rfl⟩
   ·rcases h2 l b hb with⟨_,_,h4⟩|⟨_,h4⟩
    ·exact .inl (.inl ⟨l,(hO l b h4).2⟩)
    ·exact hin b (.inl ⟨l,h4⟩)
   ·rcases h3 lev i hb with⟨_,_,_,h4⟩|h4
    ·rw[hl.1]at h4
     exact .inl (.inr ⟨lev,i,h4,rfl⟩)
    ·exact hin _ (.inr ⟨lev,i,h4,rfl⟩)
  ·rcases h2 l b hl' with⟨h4,h5,_⟩|⟨⟨_,_,_,rfl⟩,h4⟩
   ·rcases E.grow b (.inl ⟨_,hb⟩)with hh|hh
    ·exact h5 hh
    ·omega
   ·have:=Rc.own _ _ b hb h4
    cases this
  ·rcases h3 lev i hli with⟨h4,h5,_,_⟩|h4
   ·have e':G.β lev i=b:=e
    rw[e']at h4 h5
    rcases E.grow b (.inl ⟨_,hb⟩)with hh|hh
    ·exact h5 hh
    ·omega
   ·exact Rc.apart _ b lev i hb h4 e
 cases out with
 |ret v μ'=>
  cases e with
  |returned cv=>
   simp only[ff]at hR
   obtain⟨O',Rc,E⟩:=hR
   obtain⟨R2,E2,hin,hfr⟩:=merge rfl Rc E
   obtain⟨y,hy,hyr⟩:=er hop
   have hv:LVR (G.withO O') w' L 0 v cv:=by
    have:=Rc.fr 0
    simp only[cz,List.getElem?_cons_zero,Option.getD_some]at this
    simpa[aN]using this
   have hv2:LVR (G.withO O') w' L (ad h.take s).lam.length v cv:=cY (Le.refl _ _) (Nat.zero_le _) (fun _ _=>⟨rfl,rfl⟩) v cv (fun _ _=>⟨rfl,rfl⟩) hv
   obtain⟨hy1,hy2⟩:=hyr (G.withO O') w' L _ cv hv2
   obtain ⟨R3, E3⟩ := cx (dst := o.dst) (v := y) (cv := cv) R2 E2 hy1 (fun b hb => by
    have hat:ax (G.withO O') w' (aN [v]).fr #[cv] (μ'++[(aN [v]).lam]) (.fr 0) b:=by
     have:=hy2 b hb
     simpa[ax,cz]using this
    exact⟨(hfr 0 b hat).1,(hfr 0 b hat).2,hin b (.inl ⟨_,hat⟩)⟩) hd
   exact hk y _ μ' cv w' _ hy R3 E3
  |panicked ch=>simp[ff]at hR
  |outgrown=>simp[ff]at hR
 |panic v μ'=>
  cases e with
  |returned cv=>simp[ff]at hR
  |panicked ch=>
   simp only[ff]at hR
   obtain⟨O',pv,rfl,hv,Rc,E⟩:=hR
   obtain⟨R2,E2,_,_⟩:=merge rfl Rc E
   exact hpk v _ μ' pv w' _ hop R2 hv E2
  |outgrown=>simp[ff]at hR
end
end Go.Abs
set_option linter.unusedVariables false
set_option linter.unusedSimpArgs false
namespace Go.Abs
open Go
def Gh.push (G:Gh)(L n:Nat):Gh:={G with n:=fun x=>if x=L then n else G.n x}
section
variable {G G3:Gh}{w w':World}{L:Nat}{μ μ':Mu}
theorem qX {nl:Nat}{x:LV}{v:Value}{c:CV}(hle:Le G w G3 w)(hβ: ∀i,i<nl→i<G3.n L∧G3.β L i=G.β L i∧G3.sz L i=G.sz L i)(h:LVR G w L nl x v)(hc:lR L x=some c):VR G3 w c v:=by
 cases x<;>simp only[lR,Option.some.injEq,reduceCtorEq]at hc<;>subst hc<;>simp only[LVR]at h
 ·exact bm hle _ _ h
 ·exact bm hle _ _ (gi h)
 ·simp only[VR]
  obtain⟨h1,h2⟩:=h
  exact⟨(hβ _ h1).1,by rw[(hβ _ h1).2.1];exact h2⟩
 ·simp only[VR]
  obtain⟨h1,cap,cur,e,fz,h2,h3,_,h4,h5⟩:=h
  obtain⟨k1,k2,k3⟩:=hβ _ h1
  exact⟨k1,cap,cur,e,fz,by rw[k2];exact h2,h3,by rw[k2];exact h4,by rw[k3];exact h5⟩
 ·simp only[VR]
  obtain⟨h1,h2⟩:=h
  exact⟨(hβ _ h1).1,by rw[(hβ _ h1).2.1];exact h2⟩
 ·simp only[VR]
  obtain⟨h1,h2⟩:=h
  exact⟨(hβ _ h1).1,by rw[(hβ _ h1).2.1];exact h2⟩
theorem o7 {nl:Nat}: ∀{xs:List LV} {vs:List Value} {cs:List CV} (hle:Le G w G3 w) (hβ: ∀i,i<nl→i<G3.n L∧G3.β L i=G.β L i∧G3.sz L i=G.sz L i) (h:bV G w L nl xs vs) (hc:kl L xs=some cs),VRL G3 w cs vs
 |[],vs,cs,hle,hβ,h,hc=>by
  simp only[kl,Option.some.injEq]at hc
  subst hc
  simp only[bV]at h
  simpa[VRL]using h
 |x::xs,vs,cs,hle,hβ,h,hc=>by
  simp only[kl]at hc
  obtain⟨c,h1,hc⟩:=ab.1 hc
  obtain⟨r,h2,hc⟩:=ab.1 hc
  simp only[Option.some.injEq]at hc
  subst hc
  simp only[bV]at h
  obtain⟨v,vr,e,_,h3,h4⟩:=h
  simp only[VRL]
  exact⟨v,vr,e,qX hle hβ h3 h1,o7 hle hβ h4 h2⟩
theorem lm {nl L' nl':Nat}{x y:LV}{v:Value}(hle:Le G w G3 w)(hO:G3.O=G.O)(hβ: ∀i,i<nl→i<G3.n L∧G3.β L i=G.β L i∧G3.sz L i=G.sz L i)(h:LVR G w L nl x v)(hy:tM L x=some y):
  LVR G3 w L' nl' y v∧ ∀b,aE y v b↔aE x v b:=by
 unfold tM at hy
 split at hy
 ·simp only[Option.some.injEq]at hy
  subst hy
  exact⟨by simp only[LVR]at h ⊢; exact jN hle (fun _ _ _ _=>⟨rfl,by rw[hO]⟩) h,fun b=>Iff.rfl⟩
 ·obtain⟨cs,h1,hy⟩:=ab.1 hy
  simp only[Option.some.injEq]at hy
  subst hy
  simp only[LVR,VR]at h ⊢
  obtain⟨vs,e,hl⟩:=h
  exact⟨⟨vs,e,o7 hle hβ hl h1⟩,fun b=>by simp[aE]⟩
 ·obtain⟨c,h1,hy⟩:=ab.1 hy
  simp only[Option.some.injEq]at hy
  subst hy
  refine⟨by simp only[LVR];exact qX hle hβ h h1,fun b=> ?_⟩
  rename_i n1 n2
  cases x<;>first|exact(n1 _ rfl).elim|(simp[lR]at h1;done)|simp[aE]
theorem fY: ∀{xs ys:List LV},fJ L xs=some ys→ys.length=xs.length∧ ∀(j:Nat) y,ys[j]? =some y→ ∃x,xs[j]? =some x∧tM L x=some y
 |[],ys,h=>by simp only[fJ,Option.some.injEq]at h;subst h;exact⟨rfl,fun j y hy=>by simp at hy⟩
 |x::xs,ys,h=>by
  simp only[fJ]at h
  obtain⟨y,h1,h⟩:=ab.1 h
  obtain⟨r,h2,h⟩:=ab.1 h
  simp only[Option.some.injEq]at h
  subst h
  obtain⟨h3,h4⟩:=fY h2
  refine⟨by simp[h3],fun j z hz=> ?_⟩
  cases j with
  |zero=>simp only[List.getElem?_cons_zero,Option.some.injEq]at hz;subst hz;exact⟨x,rfl,h1⟩
  |succ j=>exact h4 j z (by simpa using hz)
inductive ObOuter (L:Nat):Ob→Ob→Prop where
 |dead:ObOuter L .dead .dead
 |arr {sz cs}:ObOuter L (.arr sz cs) (.arr sz cs)
 |map {ks vs}:ObOuter L (.map ks vs) (.map ks vs)
 |cells {cs ds}:fJ L cs=some ds→ObOuter L (.cells cs) (.cells ds)
theorem ig: ∀{l l':Lam},dR L l=some l'→l'.length=l.length∧ ∀i,ObOuter L (aH l i) (aH l' i)
 |[],l',h=>by simp only[dR,Option.some.injEq]at h;subst h;exact⟨rfl,fun i=>by simp only[aH,List.getElem?_nil];exact .dead⟩
 | .dead::l,l',h=>by
  simp only[dR]at h
  obtain⟨r,h1,h⟩:=ab.1 h
  simp only[Option.some.injEq]at h
  subst h
  obtain⟨h2,h3⟩:=ig h1
  refine⟨by simp[h2],fun i=> ?_⟩
  cases i with
  |zero=>exact .dead
  |succ i=>exact h3 i
 | .arr sz cs::l,l',h=>by
  simp only[dR]at h
  obtain⟨r,h1,h⟩:=ab.1 h
  simp only[Option.some.injEq]at h
  subst h
  obtain⟨h2,h3⟩:=ig h1
  refine⟨by simp[h2],fun i=> ?_⟩
  cases i with
  |zero=>exact .arr
  |succ i=>exact h3 i
 | .map ks vs::l,l',h=>by
  simp only[dR]at h
  obtain⟨r,h1,h⟩:=ab.1 h
  simp only[Option.some.injEq]at h
  subst h
  obtain⟨h2,h3⟩:=ig h1
  refine⟨by simp[h2],fun i=> ?_⟩
  cases i with
  |zero=>exact .map
  |succ i=>exact h3 i
 | .cells cs::l,l',h=>by
  simp only[dR]at h
  obtain⟨ds,h0,h⟩:=ab.1 h
  obtain⟨r,h1,h⟩:=ab.1 h
  simp only[Option.some.injEq]at h
  subst h
  obtain⟨h2,h3⟩:=ig h1
  refine⟨by simp[h2],fun i=> ?_⟩
  cases i with
  |zero=>exact .cells h0
  |succ i=>exact h3 i
theorem ObOuter.live {o o':Ob}(h:ObOuter L o o'):aK o'↔aK o:=by cases h<;>exact Iff.rfl
theorem ko {nl:Nat}(hn: ∀i,i<G.n L→i<nl):Le G w (G.push L nl) w:=by
 refine⟨fun _ _ _ h hb=>⟨h,hb⟩,fun lev i h=>⟨?_,rfl,rfl⟩,fun _ _ _ h hc=>⟨h,hc⟩,fun b cur e fz h=>⟨cur,fz,h,rfl⟩⟩
 simp only[Gh.push]
 split
 ·rename_i e;subst e;exact hn i h
 ·exact h
mutual
theorem uE {L' nl':Nat}: ∀(x:LV) (v:Value),LVR G w L 0 x v→LVR G w L' nl' x v
 | .cv c,v,h=>by simpa[LVR]using h
 | .osl xs,v,h=>by simpa[LVR]using h
 | .ost xs,v,h=>by simpa[LVR]using h
 | .stl n,v,h=>by simpa[LVR]using h
 | .loc i off,v,h=>by simp only[LVR]at h;omega
 | .lsl i off len,v,h=>by simp only[LVR]at h;omega
 | .mloc i,v,h=>by simp only[LVR]at h;omega
 | .tloc i t n,v,h=>by simp only[LVR]at h;omega
 | .lclo f caps,v,h=>by
  simp only[LVR]at h ⊢
  obtain⟨vs,e,hl⟩:=h
  exact⟨vs,e,q9 caps _ hl⟩
 | .ltup xs,v,h=>by
  simp only[LVR]at h ⊢
  obtain⟨vs,e,hl⟩:=h
  exact⟨vs,e,q9 xs _ hl⟩
theorem q9 {L' nl':Nat}: ∀(xs:List LV) (vs:List Value),bV G w L 0 xs vs→bV G w L' nl' xs vs
 |[],vs,h=>by simpa[bV]using h
 |x::xs,vs,h=>by
  simp only[bV]at h ⊢
  obtain⟨v,r,e,h0,h1,h2⟩:=h
  exact⟨v,r,e,h0,uE x v h1,q9 xs r h2⟩
end
theorem Rel.enterP {s:S}{tm cargs:Array Value}{args args':List LV}{l:Lam}{ts:List Nat}(R:Rel G L s μ tm w)(A:ArgsR G w L s tm ts args cargs)(ha:fJ L args=some args')(hl:dR L s.lam=some l):
  Rel (G.push L s.lam.length) (L+1) (aN args') (μ++[l]) cargs w∧
  (∀q b,ax (G.push L s.lam.length) w (aN args').fr cargs ((μ++[l])++[(aN args').lam]) q b→(∃j x,q= .fr j∧args[j]? =some x∧aE x (cargs.getD j undef) b)∨(∃lev i k,q= .ob lev i k∧ax G w s.fr tm (μ++[s.lam]) q b))∧
  (∀lev i,aK (aD ((μ++[l])++[(aN args').lam]) lev i)→aK (aD (μ++[s.lam]) lev i)):=by
 have hμ:=R.lev
 obtain⟨hll,hlg⟩:=ig hl
 obtain⟨hal,hag⟩:=fY ha
 have hnL: ∀i,i<G.n L→i<s.lam.length:=fun i hi=>by
  have:=R.nL
  split at this<;>omega
 have hle:Le G w (G.push L s.lam.length) w:=ko hnL
 have hleB:Le G w ((G.push L s.lam.length).below L) w:=by
  refine⟨fun _ _ _ h hb=>⟨h,hb⟩,fun lev i h=>⟨?_,rfl,rfl⟩,fun _ _ _ h hc=>⟨h,hc⟩,fun b cur e fz h=>⟨cur,fz,h,rfl⟩⟩
  have hlv:lev≤L:=by
   by_cases hh:lev≤L
   ·exact hh
   ·have:=R.ngt lev (by omega);omega
  simp only[Gh.below,if_pos hlv,Gh.push]
  split
  ·rename_i e;subst e;exact hnL i h
  ·exact h
 have hnB: ∀i,i<s.lam.length→i<(G.push L s.lam.length).n L∧(G.push L s.lam.length).β L i=G.β L i∧(G.push L s.lam.length).sz L i=G.sz L i:=fun i hi=>⟨by simp only[Gh.push,if_true];exact hi,rfl,rfl⟩
 have hnB2: ∀i,i<s.lam.length→i<((G.push L s.lam.length).below L).n L∧((G.push L s.lam.length).below L).β L i=G.β L i∧((G.push L s.lam.length).below L).sz L i=G.sz L i:=fun i hi=>⟨by simp only[Gh.below,Nat.le_refl,Gh.push,if_true];exact hi,rfl,rfl⟩
 have eL: ∀i,aD (μ++[s.lam]) L i=aH s.lam i:=fun i=>by rw[←hμ];exact bZ
 have eL2: ∀i,a8 (μ++[l]) L i=aH l i:=fun i=>by rw[←hμ];exact bZ
 have eO: ∀lev i,aK (aD ((μ++[l])++[(aN args').lam]) lev i)→(lev<L∧aD ((μ++[l])++[(aN args').lam]) lev i=aD (μ++[s.lam]) lev i)∨(lev=L∧aD ((μ++[l])++[(aN args').lam]) lev i=aH l i):=by
  intro lev i h
  obtain⟨h1,h2⟩:=kN h
  simp only[List.length_append,List.length_cons,List.length_nil]at h1
  by_cases hlt:lev<L
  ·refine .inl ⟨hlt,?_⟩
   rw[show aD ((μ++[l])++[(aN args').lam]) lev i=a8 (μ++[l]) lev i from h2,bz (by omega),aD,bz (by omega)]
  ·have:lev=L:=by omega
   subst this
   exact .inr ⟨rfl,by rw[show aD ((μ++[l])++[(aN args').lam]) lev i=a8 (μ++[l]) lev i from h2,eL2]⟩
 have hlive: ∀lev i,aK (aD ((μ++[l])++[(aN args').lam]) lev i)→aK (aD (μ++[s.lam]) lev i):=by
  intro lev i h
  rcases eO lev i h with⟨_,e⟩|⟨rfl,e⟩
  ·rw[←e];exact h
  ·rw[eL];rw[e]at h;exact(hlg i).live.1 h
 have hown: ∀q b,ax (G.push L s.lam.length) w (aN args').fr cargs ((μ++[l])++[(aN args').lam]) q b→(∃j x,q= .fr j∧args[j]? =some x∧aE x (cargs.getD j undef) b)∨(∃lev i k,q= .ob lev i k∧ax G w s.fr tm (μ++[s.lam]) q b):=by
  intro q b h
  cases q with
  |fr t=>
   simp only[ax,cz]at h
   cases hx:args'[t]? with
   |none=>rw[hx]at h;simp[aE]at h
   |some y=>
    rw[hx]at h
    obtain⟨x,hx2,hxy⟩:=hag t y hx
    exact .inl ⟨t,x,rfl,hx2,((lm (L':=L) (nl':=0) hle rfl hnB (A.val t x hx2) hxy).2 b).1 h⟩
  |ob lev i k=>
   have hl':=fI h
   refine .inr ⟨lev,i,k,rfl,?_⟩
   rcases eO lev i hl' with⟨_,e⟩|⟨rfl,e⟩
   ·exact ii (fr':=(aN args').fr) (tm':=cargs) e rfl rfl h
   ·simp only[ax,e]at h
    split at h<;>try(exact h.elim)
    rename_i ds hds
    split at h<;>try(exact h.elim)
    rename_i y hy
    obtain⟨cur,e',fz,hb,ho⟩:=h
    have hoo:=hlg i
    rw[hds]at hoo
    generalize hq:aH s.lam i=q at hoo
    cases hoo with
    |cells hto=>
     rename_i cs
     obtain⟨_,hg⟩:=fY hto
     obtain⟨x,hx,hxy⟩:=hg k y hy
     have hob:=R.lam i
     rw[hq]at hob
     simp only[ObR]at hob
     obtain⟨cur2,e2,fz2,hb2,_,_,_,hr⟩:=hob
     have hb':w.heap[G.β lev i]? =some (.cells cur e' fz):=hb
     rw[hb2]at hb'
     obtain⟨rfl,rfl,rfl⟩:=(Obj.cells.injEq ..).mp (Option.some.inj hb')
     simp only[ax,eL,hq,hx]
     exact⟨cur2,e2,fz2,hb2,((lm (L':=lev) (nl':=0) hle rfl hnB (hr k x hx) hxy).2 b).1 ho⟩
 refine⟨⟨by simp[hμ],fun t=> ?_,fun i=> ?_,fun lev i hlt=> ?_,fun lev i lev' i' h h' e=>R.inj lev i lev' i' (hlive lev i h) (hlive lev' i' h') e,fun q q' b h h'=> ?_,fun q b lev i h h' e=> ?_,fun lev hlt=> ?_,?_,fun lev hlt=> ?_⟩,hown,hlive⟩
 ·rw[cz]
  cases hx:args'[t]? with
  |none=>simp[LVR,VR]
  |some y=>
   obtain⟨x,hx2,hxy⟩:=hag t y hx
   exact(lm hle rfl hnB (A.val t x hx2) hxy).1
 ·have:aH (aN args').lam i= .dead:=by simp[aN,aH]
  rw[this];trivial
 ·by_cases h1:lev<L
  ·have e1:a8 (μ++[l]) lev i=a8 μ lev i:=bz (by omega)
   rw[e1]
   have hle2:Le (G.below lev) w ((G.push L s.lam.length).below lev) w:=hle.below lev
   exact cH hle2 (Nat.le_refl _) (fun _ h=>by omega) (fun _=>⟨rfl,rfl⟩) (fun _ _ _ _ _ _ _ _ _ _ _=>⟨rfl,rfl⟩) (R.mu lev i h1)
  ·have:lev=L:=by omega
   subst this
   rw[eL2]
   have hoo:=hlg i
   have hob:=R.lam i
   revert hob hoo
   generalize aH s.lam i=q
   generalize aH l i=q'
   intro hoo hob
   cases hoo with
   |dead=>trivial
   |arr=>
    simp only[ObR]at hob ⊢
    obtain⟨hk,cur,e,fz,h1,h2,h3,h4,h5⟩:=hob
    exact⟨hk,cur,e,fz,h1,h2,h3,h4,fun j x hx=>bm hleB x _ (h5 j x hx)⟩
   |map=>
    simp only[ObR]at hob ⊢
    obtain⟨es,clk,h1,h2,h3⟩:=hob
    exact⟨es,clk,h1,h2,lr hleB h3⟩
   |cells hto=>
    obtain⟨hln,hg⟩:=fY hto
    simp only[ObR]at hob ⊢
    obtain⟨cur,e,fz,h1,h2,h3,h4,h5⟩:=hob
    refine⟨cur,e,fz,h1,h2,h3,by rw[hln];exact h4,fun j y hy=> ?_⟩
    obtain⟨x,hx,hxy⟩:=hg j y hy
    exact(lm hleB rfl hnB2 (h5 j x hx) hxy).1
 ·rcases hown q b h with⟨j,x,rfl,hx,hox⟩|⟨lev,i,k,rfl,h1⟩<;>rcases hown q' b h' with⟨j',x',rfl,hx',hox'⟩|⟨lev',i',k',rfl,h1'⟩
  ·rw[(A.own j x b hx hox).2 j' x' hx' hox']
  ·obtain⟨t,_,ht⟩:=(A.own j x b hx hox).1
   exact absurd (R.own (.fr t) _ b ht h1') (by simp)
  ·obtain⟨t,_,ht⟩:=(A.own j' x' b hx' hox').1
   exact absurd (R.own (.fr t) _ b ht h1) (by simp)
  ·exact R.own _ _ b h1 h1'
 ·rcases hown q b h with⟨j,x,rfl,hx,hox⟩|⟨lev',i',k,rfl,h1⟩
  ·obtain⟨t,_,ht⟩:=(A.own j x b hx hox).1
   exact R.apart (.fr t) b lev i ht (hlive lev i h') e
  ·exact R.apart _ b lev i h1 (hlive lev i h') e
 ·by_cases h1:lev<L
  ·have:(G.push L s.lam.length).n lev=G.n lev:=by simp only[Gh.push];rw[if_neg (by omega)]
   rw[this,R.nlt lev h1]
   simp only[List.getD_eq_getElem?_getD,List.getElem?_append_left (show lev<μ.length by omega)]
  ·have:lev=L:=by omega
   subst this
   subst hμ
   simp[Gh.push,hll]
 ·have h1:=R.ngt (L+1) (by omega)
  have:(G.push L s.lam.length).n (L+1)=G.n (L+1):=by simp only[Gh.push];rw[if_neg (by omega)]
  simp only[aN,Bool.false_eq_true,if_false]
  rw[this,h1]
 ·have:(G.push L s.lam.length).n lev=G.n lev:=by simp only[Gh.push];rw[if_neg (by omega)]
  rw[this];exact R.ngt lev (by omega)
theorem Rel.mergeP {s sr:S}{tm tmr:Array Value}{T:Nat→Prop}{O':Nat→Nat}{l':Lam}(R:Rel G L s μ tm w)
  (hT: ∀b,T b→ ∀t,¬aE (s.fr t) (tm.getD t undef) b)
  (hlam:sr.lam=[]) (Rc:Rel ((G.push L s.lam.length).withO O') (L+1) sr (μ'++[l']) tmr w') (E:Ext (L+1) T (G.push L s.lam.length) w ((G.push L s.lam.length).withO O') w' (az ((G.push L s.lam.length).withO O') w' sr (μ'++[l']) tmr)):
  Rel ((G.push L s.lam.length).withO O') L {s with lam:=l',pushed:=true} μ' tm w'∧
  (∀q b,ax ((G.push L s.lam.length).withO O') w' s.fr tm (μ'++[l']) q b→(b<w.heap.size∧ ¬T b∧ax G w s.fr tm (μ++[s.lam]) q b)∨((∃lev i k,q= .ob lev i k)∧ax ((G.push L s.lam.length).withO O') w' sr.fr tmr ((μ'++[l'])++[sr.lam]) q b))∧
  (∀lev i,aK (aD (μ'++[l']) lev i)→aK (aD ((μ'++[l'])++[sr.lam]) lev i)):=by
 have hμ':μ'.length=L:=by have:=Rc.lev;simp at this;omega
 have hnL: ∀i,i<G.n L→i<s.lam.length:=fun i hi=>by
  have:=R.nL
  split at this<;>omega
 have hle0:Le G w (G.push L s.lam.length) w:=ko hnL
 have hle:=hle0.trans E.le
 have hlen:s.lam.length=l'.length:=by
  have:=Rc.nlt L (by omega)
  simp only[Gh.withO,Gh.push,if_true,List.getD_eq_getElem?_getD]at this
  rw[List.getElem?_append_right (by omega)]at this
  simpa[hμ']using this
 have hfrT: ∀t b,aE (s.fr t) (tm.getD t undef) b→b<w.heap.size∧ ¬T b:=fun t b hb=>⟨R.touch_lt (.inl ⟨.fr t,hb⟩),fun h=>hT b h t hb⟩
 have hkeep: ∀b,b<w.heap.size→ ¬T b→w'.heap[b]? =w.heap[b]? ∧((G.push L s.lam.length).withO O').O b=G.O b:=fun b hb hn=>E.keep b hb hn
 have eO: ∀lev i,aK (aD (μ'++[l']) lev i)→aD ((μ'++[l'])++[sr.lam]) lev i=aD (μ'++[l']) lev i:=by
  intro lev i h
  have:lev<(μ'++[l']).length:=by
   by_cases hh:lev<(μ'++[l']).length
   ·exact hh
   ·simp only[aD,a8]at h
    rw[List.getElem?_eq_none (by omega)]at h
    exact h.elim
  exact bz this
 have hlive: ∀lev i,aK (aD (μ'++[l']) lev i)→aK (aD ((μ'++[l'])++[sr.lam]) lev i):=fun lev i h=>by rw[eO lev i h];exact h
 have hown: ∀q b,ax ((G.push L s.lam.length).withO O') w' s.fr tm (μ'++[l']) q b→(b<w.heap.size∧ ¬T b∧ax G w s.fr tm (μ++[s.lam]) q b)∨((∃lev i k,q= .ob lev i k)∧ax ((G.push L s.lam.length).withO O') w' sr.fr tmr ((μ'++[l'])++[sr.lam]) q b):=by
  intro q b h
  cases q with
  |fr t=>exact .inl ⟨(hfrT t b h).1,(hfrT t b h).2,h⟩
  |ob lev i k=>exact .inr ⟨⟨_,_,_,rfl⟩,ii (fr':=s.fr) (tm':=tm) (eO lev i (fI h)).symm rfl rfl h⟩
 have hTr:=E.grow
 refine⟨⟨hμ',fun t=> ?_,fun i=> ?_,fun lev i hlt=> ?_,fun lev i lev' i' h h' e=>Rc.inj lev i lev' i' (hlive lev i h) (hlive lev' i' h') e,fun q q' b h h'=> ?_,fun q b lev i h h' e=> ?_,fun lev hlt=> ?_,?_,fun lev hlt=> ?_⟩,hown,hlive⟩
 ·exact cY hle (by simp only;omega) (fun _ _=>⟨rfl,rfl⟩) _ _ (fun b hb=>hkeep b (hfrT t b hb).1 (hfrT t b hb).2) (R.fr t)
 ·have h1:=Rc.mu L i (by omega)
  have e1:a8 (μ'++[l']) L i=aH l' i:=by rw[←hμ'];exact bZ
  rw[e1]at h1
  revert h1
  generalize aH l' i=q
  intro h1
  cases q with
  |dead=>trivial
  |cells cs=>
   simp only[ObR]at h1 ⊢
   obtain⟨cur,e,fz,a1,a2,a3,a4,a5⟩:=h1
   exact⟨cur,e,fz,a1,a2,a3,a4,fun j x hx=>nu x _ (a5 j x hx)⟩
  |arr kk cs=>
   simp only[ObR]at h1 ⊢
   obtain⟨hk,cur,e,fz,a1,a2,a3,a4,a5⟩:=h1
   exact⟨hk,cur,e,fz,a1,a2,a3,a4,fun j x hx=>bm (mL _ _ _) x _ (a5 j x hx)⟩
  |map ks vs=>
   simp only[ObR]at h1 ⊢
   obtain⟨es,clk,a1,a2,a3⟩:=h1
   exact⟨es,clk,a1,a2,lr (mL _ _ _) a3⟩
 ·have h1:=Rc.mu lev i (by omega)
  have e1:a8 (μ'++[l']) lev i=a8 μ' lev i:=bz (by omega)
  rw[e1]at h1
  exact h1
 ·rcases hown q b h with⟨h1,h2,h3⟩|⟨⟨_,_,_,rfl⟩,h3⟩<;>rcases hown q' b h' with⟨h1',h2',h3'⟩|⟨⟨_,_,_,rfl⟩,h3'⟩
  ·exact R.own q q' b h3 h3'
  ·exfalso
   rcases hTr b (.inl ⟨_,h3'⟩)with hh|hh
   ·exact h2 hh
   ·omega
  ·exfalso
   rcases hTr b (.inl ⟨_,h3⟩)with hh|hh
   ·exact h2' hh
   ·omega
  ·exact Rc.own _ _ b h3 h3'
 ·have h3':=hlive lev i h'
  rcases hown q b h with⟨h1,h2,h3⟩|⟨⟨_,_,_,rfl⟩,h3⟩
  ·rcases hTr b (.inr ⟨lev,i,h3',e⟩)with hh|hh
   ·exact h2 hh
   ·omega
  ·exact Rc.apart _ b lev i h3 h3' e
 ·have h1:=Rc.nlt lev (by omega)
  rw[h1]
  simp only[List.getD_eq_getElem?_getD,List.getElem?_append_left (show lev<μ'.length by omega)]
 ·simp only[if_true]
  simp only[Gh.withO,Gh.push,if_true]
  exact hlen
 ·simp only[Gh.withO,Gh.push]
  rw[if_neg (by omega)]
  exact R.ngt lev hlt
end
section
variable {P:Program}{W0:World}{ρ:Rho}{α:Type}{L:Nat}{G:Gh}{w:World}{s:S}{μ:Mu}{a:Act}{o:Oper}{h:OpHint}{k:LV→S→Mu→Option α}{p:CV→S→Mu→Option α}{r:α}{K:Act→World→Prop}{Q:Exit→Act→World→Prop}
theorem qz {q:Mu×Lam}(h:dz μ=some q):μ=q.1++[q.2]:=by
 unfold dz at h
 split at h<;>simp only[Option.some.injEq,reduceCtorEq]at h
 rename_i l r e
 subst h
 have:=congrArg List.reverse e
 simpa using this
theorem ArgsR.strip {ts:List Nat}{args:List LV}{cargs:Array Value}(A:ArgsR G w L s a.tmps ts args cargs):True:=trivial
theorem Ns {f:FuncId}{args args':List LV}{l:Lam}{cargs:Array Value}(R:Rel G L s μ a.tmps w)(hd: ∀d,o.dst=some d→d<a.tmps.size)(hk:KOK L G w s μ a o.dst k r K)(hpk:POK L G w s μ a p r Q)
  (hrho: ∀f args μ out,ρ.call f args μ=some out→cG P W0 f args μ out) (hkn:Kn W0 w (az G w s μ a.tmps)) (A:ArgsR G w L s a.tmps h.take args cargs) (ha:fJ μ.length args=some args') (hlm:dR μ.length s.lam=some l)
  (hrun:(∃fn c,P.funcs[f]? =some fn∧fn.body=some c∧(fn.name == "runtime.NumGoroutine")=false)→(execOp a.eval o).run P w= .ok (.enter f cargs) w)
  (hop : callK (ρ.call f args' (μ ++ [l])) (fun v μ => opt (dz μ) fun q => dy P h.own o.type v fun v => k v { ad h.take s with lam := q.2, pushed := true } q.1)
    (fun v μ=>opt (dz μ) fun q=>p v {ad h.take s with lam:=q.2,pushed:=true} q.1)=some r):o.wp P a w K Q:=by
 obtain⟨out,hout,hop⟩:=ab.1 hop
 obtain⟨hfn,hM⟩:=hrho _ _ _ _ hout
 have hμ:=R.lev
 rw[hμ]at ha hlm
 obtain⟨R1,E1,hO⟩:=dB R h.take
 have hl:=aU h.take s
 obtain⟨Re,hown,hlive⟩:=R.enterP A ha hlm
 have hT: ∀b,az (G.push L s.lam.length) w (aN args') (μ++[l]) cargs b→ ∀t,¬aE ((ad h.take s).fr t) (a.tmps.getD t undef) b:=by
  rintro b (⟨q,hb⟩|⟨lev,i,hb,rfl⟩) t ht
  ·rcases hown q b hb with⟨j,x,rfl,hx,ho⟩|⟨lev,i,k,rfl,ho⟩
   ·obtain⟨⟨u,hu,hou⟩,_⟩:=A.own j x b hx ho
    obtain⟨a1,a2⟩:=hO (.fr t) b ht
    exact a1 u hu (R.own _ (.fr u) b a2 hou)
   ·have:=R.own _ _ b (hO (.fr t) b ht).2 ho
    cases this
  ·exact R.apart _ _ lev i (hO (.fr t) _ ht).2 (hlive lev i hb) rfl
 have hT0: ∀b,az (G.push L s.lam.length) w (aN args') (μ++[l]) cargs b→az G w s μ a.tmps b:=by
  rintro b (⟨q,hb⟩|⟨lev,i,hb,rfl⟩)
  ·rcases hown q b hb with⟨j,x,rfl,hx,ho⟩|⟨lev,i,k,rfl,ho⟩
   ·obtain⟨⟨u,hu,hou⟩,_⟩:=A.own j x b hx ho
    exact .inl ⟨.fr u,hou⟩
   ·exact .inl ⟨_,ho⟩
  ·exact .inr ⟨lev,i,hlive lev i hb,rfl⟩
 have hcall:=hM (G.push L s.lam.length) w cargs (by rw[A.size,(fY ha).1]) (by rw[List.length_append,hμ];exact Re) (hkn.mono hT0)
 rw[show (μ++[l]).length=L+1 by simp[hμ]]at hcall
 unfold Oper.wp
 rw[hrun hfn,Oper.upon_enter]
 refine hcall.mono fun e w' hR=> ?_
 have hnL: ∀i,i<G.n L→i<s.lam.length:=fun i hi=>by
  have:=R.nL
  split at this<;>omega
 have merge: ∀{O':Nat→Nat} {sr:S} {μ':Mu} {l':Lam} {tmr:Array Value},sr.lam=[]→Rel ((G.push L s.lam.length).withO O') (L+1) sr (μ'++[l']) tmr w'→
   Ext (L+1) (az (G.push L s.lam.length) w (aN args') (μ++[l]) cargs) (G.push L s.lam.length) w ((G.push L s.lam.length).withO O') w' (az ((G.push L s.lam.length).withO O') w' sr (μ'++[l']) tmr)→
   Rel ((G.push L s.lam.length).withO O') L {ad h.take s with lam:=l',pushed:=true} μ' a.tmps w'∧Ext L (az G w s μ a.tmps) G w ((G.push L s.lam.length).withO O') w' (az ((G.push L s.lam.length).withO O') w' {ad h.take s with lam:=l',pushed:=true} μ' a.tmps)∧
   (∀b,az ((G.push L s.lam.length).withO O') w' sr (μ'++[l']) tmr b→(az G w s μ a.tmps b∨w.heap.size≤b))∧
   (∀ t b, ax ((G.push L s.lam.length).withO O') w' sr.fr tmr ((μ' ++ [l']) ++ [sr.lam]) (.fr t) b → (∀ q, ¬ ax ((G.push L s.lam.length).withO O') w' (ad h.take s).fr a.tmps (μ' ++ [l']) q b) ∧
    ∀lev i,aK (aD (μ'++[l']) lev i)→((G.push L s.lam.length).withO O').β lev i≠b):=by
  intro O' sr μ' l' tmr hlam Rc E
  have hsl:(ad h.take s).lam.length=s.lam.length:=by rw[hl.1]
  obtain⟨R2,h2,h3⟩:=R1.mergeP (O':=O') hT hlam (by rw[hsl];exact Rc) (by rw[hsl];exact E)
  rw[hsl]at R2 h2
  have hin: ∀b,az ((G.push L s.lam.length).withO O') w' sr (μ'++[l']) tmr b→(az G w s μ a.tmps b∨w.heap.size≤b):=fun b hb=>(E.grow b hb).imp (hT0 b) id
  refine⟨R2,⟨(ko hnL).trans E.le,E.os,E.tape,E.output,E.size,fun b hb hn=>E.keep b hb fun hh=>hn (hT0 b hh),fun b hb=> ?_,fun lv hlv=> ?_⟩,hin,fun t b hb=>⟨fun q hq=> ?_,fun lev i hli e=>Rc.apart _ b lev i hb (h3 lev i hli) e⟩⟩
  ·rcases hb with⟨q,hb⟩|⟨lev,i,hb,rfl⟩
   ·rcases h2 q b hb with⟨_,_,h4⟩|⟨_,h4⟩
    ·exact .inl (.inl ⟨q,(hO q b h4).2⟩)
    ·exact hin b (.inl ⟨q,h4⟩)
   ·exact hin _ (.inr ⟨lev,i,h3 lev i hb,rfl⟩)
  ·refine⟨fun _=>⟨rfl,rfl⟩,?_⟩
   simp only[Gh.withO,Gh.push]
   rw[if_neg (by omega)]
  ·rcases h2 q b hq with⟨h4,h5,_⟩|⟨⟨_,_,_,rfl⟩,h4⟩
   ·rcases E.grow b (.inl ⟨_,hb⟩)with hh|hh
    ·exact h5 hh
    ·omega
   ·have:=Rc.own _ _ b hb h4
    cases this
 cases out with
 |ret v μx=>
  cases e with
  |returned cv=>
   simp only[ff]at hR
   obtain⟨O',Rc,E⟩:=hR
   obtain⟨q,hq,hop2⟩:=ab.1 hop
   clear hop
   have hq':=qz hq
   subst hq'
   obtain⟨R2,E2,hin,hfr⟩:=merge rfl Rc E
   obtain⟨y,hy,hyr⟩:=er hop2
   have hv:LVR ((G.push L s.lam.length).withO O') w' (L+1) 0 v cv:=by
    have:=Rc.fr 0
    simp only[cz,List.getElem?_cons_zero,Option.getD_some]at this
    simpa[aN]using this
   obtain⟨hy1,hy2⟩:=hyr ((G.push L s.lam.length).withO O') w' L q.2.length cv (uE v cv hv)
   obtain ⟨R3, E3⟩ := cx (dst := o.dst) (v := y) (cv := cv) R2 E2 hy1 (fun b hb => by
    have hat:ax ((G.push L s.lam.length).withO O') w' (aN [v]).fr #[cv] ((q.1++[q.2])++[(aN [v]).lam]) (.fr 0) b:=by
     have:=hy2 b hb
     simpa[ax,cz]using this
    exact⟨(hfr 0 b hat).1,(hfr 0 b hat).2,hin b (.inl ⟨_,hat⟩)⟩) hd
   exact hk y _ _ cv w' _ hy R3 E3
  |panicked ch=>simp[ff]at hR
  |outgrown=>simp[ff]at hR
 |panic v μx=>
  cases e with
  |returned cv=>simp[ff]at hR
  |panicked ch=>
   simp only[ff]at hR
   obtain⟨O',pv,rfl,hv,Rc,E⟩:=hR
   obtain⟨q,hq,hop2⟩:=ab.1 hop
   clear hop
   have hq':=qz hq
   subst hq'
   obtain⟨R2,E2,_,_⟩:=merge rfl Rc E
   exact hpk v _ _ pv w' _ hop2 R2 hv E2
  |outgrown=>simp[ff]at hR
end
end Go.Abs
set_option linter.unusedVariables false
set_option linter.unusedSimpArgs false
namespace Go.Abs
open Go Go.MapKept
section
variable {G:Gh}{w:World}{L:Nat}{P:Program}
theorem Dd {d:TypeDesc}{v:Value}(h:BC d v=true):IsKey d v:=by
 cases d<;>cases v<;>simp_all [BC,IsKey]
theorem lf {d:TypeDesc}: ∀{ks:List Value},j2 d ks=true→ ∀x∈ks,IsKey d x
 |[],_,x,hx=>by simp at hx
 |k::r,h,x,hx=>by
  simp only[j2]at h
  split at h<;>try(cases h;done)
  rename_i hk
  rcases List.mem_cons.1 hx with rfl|hx
  ·exact Dd hk
  ·exact lf h x hx
theorem qU {d:TypeDesc}{a b:Value}(ha:IsKey d a)(hb:IsKey d b):Instr.sameNow d a b=some (ql a b):=by
 obtain⟨r,h1,h2⟩:=sameNow_of_keys ha hb
 rw[h1]
 congr 1
 rw[Bool.eq_iff_iff,h2]
 cases d<;>cases a<;>cases b<;>simp_all [IsKey,ql]
 rename_i x y
 cases x;cases y
 simp
theorem Bx {d:TypeDesc}{k:Value}(hk:IsKey d k): ∀{es:List MapEntry} {ks:List Value} {vs:List CV} {i:Nat},es.map MapEntry.key=ks→VRL G w vs (es.map MapEntry.val)→(∀x∈ks,IsKey d x)→
  (fU ks vs k=none→Instr.findNow d k es i=some none)∧(∀c,fU ks vs k=some c→ ∃j v,Instr.findNow d k es i=some (some (j,v))∧VR G w c v)
 |[],ks,vs,i,he,hv,ho=>by
  subst he
  exact⟨fun _=>rfl,fun c hc=>by simp[fU]at hc⟩
 |e::es,ks,vs,i,he,hv,ho=>by
  subst he
  cases vs with
  |nil=>simp[VRL]at hv
  |cons c0 vs=>
   simp only[List.map_cons,VRL,List.cons.injEq]at hv
   obtain⟨v,r,⟨rfl,rfl⟩,h1,h2⟩:=hv
   have hs:=qU hk (ho e.key (by simp))
   obtain⟨i1,i2⟩:=Bx hk (i:=i+1) rfl h2 (fun x hx=>ho x (by simp only[List.map_cons,List.mem_cons];exact .inr hx))
   simp only[fU,List.map_cons,Instr.findNow,hs]
   cases ql k e.key with
   |true=>exact⟨fun h=>by simp at h,fun c hc=>by simp only[Option.some.injEq]at hc;subst hc;exact⟨_,_,rfl,h1⟩⟩
   |false=>exact⟨i1,i2⟩
theorem FH {d:TypeDesc}{k:Value}(hk:IsKey d k): ∀{es:List MapEntry} {i:Nat},(∀x∈es.map MapEntry.key,IsKey d x)→
  (j1 (es.map MapEntry.key) k=none→Instr.findNow d k es i=some none)∧(∀n,j1 (es.map MapEntry.key) k=some n→ ∃e,es[n]? =some e∧e.key=k∧Instr.findNow d k es i=some (some (i+n,e.val)))
 |[],i,ho=>⟨fun _=>rfl,fun n hn=>by simp[j1]at hn⟩
 |e::es,i,ho=>by
  have hs:=qU hk (ho e.key (by simp))
  obtain⟨i1,i2⟩:=FH hk (es:=es) (i:=i+1) (fun x hx=>ho x (by simp only[List.map_cons,List.mem_cons];exact .inr hx))
  simp only[j1,List.map_cons,Instr.findNow,hs]
  cases hke:ql k e.key with
  |true=>
   refine⟨fun h=>by simp at h,fun n hn=> ?_⟩
   simp only[Option.some.injEq]at hn
   subst hn
   refine⟨e,rfl,?_,rfl⟩
   have:=(sameNow_of_keys hk (ho e.key (by simp)))
   obtain⟨r,h1,h2⟩:=this
   rw[hs,hke]at h1
   simp only[Option.some.injEq]at h1
   exact(h2.1 h1.symm).symm
  |false=>
   refine⟨fun h=>i1 ?_,fun n hn=> ?_⟩
   ·cases hki:j1 (es.map MapEntry.key) k with
    |none=>rfl
    |some n=>rw[hki]at h;simp[opt]at h
   ·obtain⟨m,h1,h2⟩:=ab.1 hn
    simp only[Option.some.injEq]at h2
    subst h2
    obtain⟨e',h3,h4,h5⟩:=i2 m h1
    refine⟨e',by simpa using h3,h4,?_⟩
    rw[h5]
    simp only[Option.some.injEq,Prod.mk.injEq,and_true]
    omega
theorem Gj {t kt et:TypeId}{d:TypeDesc}{r:Nat}{es:Array MapEntry}{clk:Nat}{k v:Value}{ks:List Value}{vs:List CV}{c:CV}(hm:P.underlying t=some (.map kt et))(hd:P.underlying kt=some d)
  (hb:w.heap[r]? =some (.map es clk)) (hk:IsKey d k) (hM:rb G w ks vs es) (ho: ∀x∈ks,IsKey d x):
  ∃es' clk',(Instr.mapUpdate t (.map (some r)) k v).run P w= .ok () {w with heap:=w.heap.setIfInBounds r (.map es' clk')}∧es'.toList.map MapEntry.key=kI ks k∧
   ∀G' w',VRL G' w' vs (es.toList.map MapEntry.val)→VR G' w' c v→VRL G' w' (kJ ks vs k c) (es'.toList.map MapEntry.val):=by
 obtain⟨hk1,hv1⟩:=hM
 subst hk1
 obtain⟨i1,i2⟩:=FH hk (es:=es.toList) (i:=0) ho
 cases hi:j1 (es.toList.map MapEntry.key) k with
 |none=>
  have hf:=i1 hi
  refine⟨es.push {key:=k,val:=v,born:=clk},clk+1,?_,?_,fun G' w' h1 h2=> ?_⟩
  ·simp[Instr.mapUpdate,run_underlying hm,MapKept.run_getObj_map hb,MapKept.run_checkKey hd hk,MapKept.run_findKey hd hf,MapKept.run_setObj_map _ hb,Result.andThen]
  ·simp[kI,hi]
  ·simp only[kJ,hi,Array.toList_push,List.map_append,List.map_cons,List.map_nil]
   revert h1
   generalize es.toList.map MapEntry.val=l
   clear hv1
   induction vs generalizing l with
   |nil=>intro h1;simp only[VRL]at h1;subst h1;simpa[VRL]using h2
   |cons x vs ih=>
    intro h1
    simp only[VRL]at h1
    obtain⟨u,q,rfl,a1,a2⟩:=h1
    simp only[List.cons_append,VRL]
    exact⟨u,_,rfl,a1,ih _ a2⟩
 |some n=>
  obtain⟨e,he,hek,hf⟩:=i2 n hi
  rw[Nat.zero_add]at hf
  have he':es[n]? =some e:=by simpa using he
  refine⟨es.modify n fun e=>{e with key:=k,val:=v},clk,?_,?_,fun G' w' h1 h2=> ?_⟩
  ·have hks:(Instr.keyThatStays (((es[n]?).map (·.key)).getD k) k).run P w= .ok k w:=by
    rw[he']
    simp only[Option.map_some,Option.getD_some,hek]
    exact run_keyThatStays hk
   simp[Instr.mapUpdate,run_underlying hm,MapKept.run_getObj_map hb,MapKept.run_checkKey hd hk,MapKept.run_findKey hd hf,hks,MapKept.run_setObj_map _ hb,Result.andThen]
  ·simp only[kI,hi]
   exact modify_keys n _ fun e2 h=>by
    rw[he']at h
    simp only[Option.some.injEq]at h
    subst h
    simp[hek]
  ·simp only[kJ,hi]
   have hl:(es.modify n fun e=>{e with key:=k,val:=v}).toList.map MapEntry.val=(es.toList.map MapEntry.val).set n v:=by
    apply List.ext_getElem?
    intro j
    simp only[List.getElem?_map,Array.getElem?_toList,Array.getElem?_modify,List.getElem?_set,List.length_map,Array.length_toList]
    by_cases hnj:n=j
    ·subst hnj
     have:n<es.size:=(Array.getElem?_eq_some_iff.1 he').1
     simp[he',this]
    ·simp[hnj]
   rw[hl]
   revert h1
   generalize es.toList.map MapEntry.val=l
   clear hl hv1 hf he he' i1 i2 hi
   induction vs generalizing l n with
   |nil=>intro h1;simp only[VRL]at h1;subst h1;simp[VRL]
   |cons x vs ih=>
    intro h1
    simp only[VRL]at h1
    obtain⟨u,q,rfl,a1,a2⟩:=h1
    cases n with
    |zero=>simp only[List.set_cons_zero,VRL];exact⟨v,q,rfl,h2,a2⟩
    |succ n=>simp only[List.set_cons_succ,VRL];exact⟨u,_,rfl,a1,ih n q a2⟩
theorem Rel.setMap {s s1:S}{μ μ1:Mu}{tm:Array Value}(R:Rel G L s μ tm w){lev i:Nat}{ks ks':List Value}{vs vs':List CV}(hob:aD (μ++[s.lam]) lev i= .map ks vs){es es':Array MapEntry}{clk clk':Nat}
  (hb:w.heap[G.β lev i]? =some (.map es clk)) (hfr:s1.fr=s.fr) (hp:s1.pushed=s.pushed) (hlen:s1.lam.length=s.lam.length) (hμlen:μ1.length=μ.length) (hH:μ1++[s1.lam]=bD (μ++[s.lam]) lev i (.map ks' vs'))
  (hnew: ∀w',Le G w G w'→(lev=L→rb G w' ks' vs' es')∧(lev<L→rb (G.below lev) w' ks' vs' es')):
  let w1:World:={w with heap:=w.heap.setIfInBounds (G.β lev i) (.map es' clk')}
  Rel G L s1 μ1 tm w1∧Ext L (az G w s μ tm) G w G w1 (az G w1 s1 μ1 tm):=by
 intro w1
 have hl:aK (aD (μ++[s.lam]) lev i):=by rw[hob];trivial
 have hO:G.O (G.β lev i)=0:=by
  rcases cJ R.lev hl with⟨h1,h2⟩|⟨rfl,h1,h2⟩
  ·have:=R.mu lev i h1
   rw[←h2,hob]at this
   simp only[ObR]at this
   obtain⟨_,_,_,h,_⟩:=this
   exact h
  ·have:=R.lam i
   rw[←h2,hob]at this
   simp only[ObR]at this
   obtain⟨_,_,_,h,_⟩:=this
   exact h
 have hw1:w1.heap[G.β lev i]? =some (.map es' clk'):=(heap_set hb).1
 have hblk: ∀b,b≠G.β lev i→w1.heap[b]? =w.heap[b]? :=fun b h=>(heap_set hb).2 b h
 have hsz:w1.heap.size=w.heap.size:=by simp[w1]
 have hle:Le G w G w1:=by
  refine⟨fun b es2 clk2 h hb2=> ?_,fun _ _ h=>⟨h,rfl,rfl⟩,fun b off v h hc=> ?_,fun b cur2 e2 fz2 h=> ?_⟩
  ·have hne:b≠G.β lev i:=fun e=>by subst e;omega
   exact⟨h,by rw[hblk b hne];exact hb2⟩
  ·have hne:b≠G.β lev i:=fun e=>by subst e;omega
   refine⟨h,?_⟩
   rw[←hc]
   simp only[World.cell?]
   rw[hblk b hne]
  ·have hne:b≠G.β lev i:=fun e=>by subst e;rw[hb]at h;cases h
   exact⟨cur2,fz2,by rw[hblk b hne];exact h,rfl⟩
 have hset:=BL (o:=Ob.map ks' vs') hl
 have hAt: ∀l j,aD (μ1++[s1.lam]) l j=if l=lev∧j=i then .map ks' vs' else aD (μ++[s.lam]) l j:=fun l j=>by rw[aD,hH];exact hset l j
 have hlive: ∀l j,aK (aD (μ1++[s1.lam]) l j)→aK (aD (μ++[s.lam]) l j):=by
  intro l j h
  rw[hAt]at h
  split at h
  ·rename_i e;rw[e.1,e.2];exact hl
  ·exact h
 have hne: ∀l j,aK (aD (μ++[s.lam]) l j)→ ¬(l=lev∧j=i)→G.β l j≠G.β lev i:=fun l j h hn e=>hn (R.inj l j lev i h hl e)
 have hownAt: ∀l b,ax G w1 s1.fr tm (μ1++[s1.lam]) l b→ax G w s.fr tm (μ++[s.lam]) l b:=by
  intro l b h
  cases l with
  |fr t=>rw[hfr]at h;exact h
  |ob l j k=>
   simp only[ax]at h
   split at h<;>try(exact h.elim)
   rename_i cs hcs
   split at h<;>try(exact h.elim)
   rename_i x hx
   obtain⟨cur2,e2,fz2,hb2,ho⟩:=h
   rw[hAt]at hcs
   by_cases e:l=lev∧j=i
   ·rw[if_pos e]at hcs;cases hcs
   ·rw[if_neg e]at hcs
    have hl2:aK (aD (μ++[s.lam]) l j):=by rw[hcs];trivial
    rw[hblk _ (hne l j hl2 e)]at hb2
    simp only[ax,hcs,hx]
    exact⟨cur2,e2,fz2,hb2,ho⟩
 have hownBlk: ∀l b,ax G w s.fr tm (μ++[s.lam]) l b→w1.heap[b]? =w.heap[b]? ∧G.O b=G.O b:=fun l b h=>⟨hblk b fun e=>R.apart l b lev i h hl e.symm,rfl⟩
 have hlvl:lev≤L:=by rcases cJ R.lev hl with⟨h1,_⟩|⟨h1,_⟩<;>omega
 refine ⟨⟨by rw [hμlen]; exact R.lev, fun t => ?_, fun j => ?_, fun l j hlt => ?_, fun l j l' j' h h' e' => R.inj l j l' j' (hlive l j h) (hlive l' j' h') e', fun l l' b h h' => R.own l l' b (hownAt l b h) (hownAt l' b h'), fun l b l' j h h' e' => R.apart l b l' j (hownAt l b h) (hlive l' j h') e', fun l hlt => ?_, ?_, R.ngt⟩,
  ⟨hle,rfl,rfl,rfl,by rw[hsz];exact Nat.le_refl _,fun b hb' hn=>⟨hblk b fun e=>hn (.inr ⟨lev,i,hl,e.symm⟩),rfl⟩,fun b hb'=> .inl ?_,fun _ _=>⟨fun _=>⟨rfl,rfl⟩,rfl⟩⟩⟩
 ·rw[hfr,hlen]
  exact cY hle (Nat.le_refl _) (fun _ _=>⟨rfl,rfl⟩) _ _ (fun b hb=>hownBlk (.fr t) b hb) (R.fr t)
 ·rw[hlen]
  have e1:aD (μ1++[s1.lam]) L j=aH s1.lam j:=by rw[←R.lev,←hμlen];exact bZ
  have e2:aD (μ++[s.lam]) L j=aH s.lam j:=by rw[←R.lev];exact bZ
  rw[←e1,hAt]
  split
  ·rename_i e
   obtain⟨rfl,rfl⟩:=e
   simp only[ObR]
   exact⟨es',clk',hw1,hO,(hnew w1 hle).1 rfl⟩
  ·rename_i e
   rw[e2]
   refine cH hle (Nat.le_refl _) (fun _ _=>⟨rfl,rfl⟩) (fun h=>⟨hblk _ (hne L j (by rw[e2];exact h) e),rfl⟩) (fun cs k x cur e fz ho hx hb b' hb'=>hownBlk (.ob L j k) b' ?_) (R.lam j)
   simp only[ax,e2,ho,hx]
   exact⟨cur,e,fz,hb,hb'⟩
 ·have e1:aD (μ1++[s1.lam]) l j=a8 μ1 l j:=bz (by rw[hμlen,R.lev];exact hlt)
  have e2:aD (μ++[s.lam]) l j=a8 μ l j:=bz (by rw[R.lev];exact hlt)
  rw[←e1,hAt]
  split
  ·rename_i e
   obtain⟨rfl,rfl⟩:=e
   simp only[ObR]
   exact⟨es',clk',hw1,hO,(hnew w1 hle).2 hlt⟩
  ·rename_i e
   rw[e2]
   refine cH (hle.below l) (Nat.le_refl _) (fun _ h=>by omega) (fun h=>⟨hblk _ (hne l j (by rw[e2];exact h) e),rfl⟩) (fun cs k x cur e fz ho hx hb b' hb'=>hownBlk (.ob l j k) b' ?_) (R.mu l j hlt)
   simp only[ax,e2,ho,hx]
   exact⟨cur,e,fz,hb,hb'⟩
 ·have h1:(μ1.getD l []).length=(μ.getD l []).length:=by
   have:=(ib (H:=μ++[s.lam]) (lev:=lev) (i:=i) (o:=Ob.map ks' vs')).2 l
   rw[←hH]at this
   have a1:l<μ1.length:=by rw[hμlen,R.lev];exact hlt
   have a2:l<μ.length:=by rw[R.lev];exact hlt
   simp only[List.getD_eq_getElem?_getD,List.getElem?_append_left a1,List.getElem?_append_left a2]at this ⊢
   exact this
  rw[h1];exact R.nlt l hlt
 ·rw[hp,hlen];exact R.nL
 ·rcases hb' with⟨l,hb'⟩|⟨l,j,h,rfl⟩
  ·exact .inl ⟨l,hownAt l b hb'⟩
  ·exact .inr ⟨l,j,hlive l j h,rfl⟩
end
section
variable {P:Program}{ρ:Rho}{α:Type}{L:Nat}{G:Gh}{w:World}{s:S}{μ:Mu}{a:Act}{o:Oper}{h:OpHint}{k:LV→S→Mu→Option α}{p:CV→S→Mu→Option α}{r:α}{K:Act→World→Prop}{Q:Exit→Act→World→Prop}
theorem xK {t:TypeId}{z:CV}(hz:xJ P t=some z): ∃zv,(zeroValue t).run P w= .ok zv w∧VR G w z zv:=by
 unfold xJ at hz
 split at hz<;>try(simp at hz;done)
 rename_i i hi
 split at hz<;>try(simp at hz;done)
 rename_i zv hzv
 refine⟨zv,by simp[zeroValue,typeInfo,hi,hzv],?_⟩
 split at hz
 ·rename_i cs
  simp only[Option.some.injEq]at hz
  subst hz
  simp only[VR]
  refine⟨cs,rfl,?_⟩
  generalize cs.toList=l
  induction l with
  |nil=>simp[VRL]
  |cons x l ih=>simp only[List.map_cons,VRL];exact⟨x,l,rfl,by simp[VR],ih⟩
 ·simp only[Option.some.injEq]at hz
  subst hz
  simp[VR]
theorem tN {nl:Nat}{c:CV}{v:Value}{b:Bool}(h:VR G w c v):LVR G w L nl (.ltup [.cv c,.cv (.v (.bool b))]) (.tuple #[v,.bool b]):=by
 simp only[LVR]
 refine⟨_,rfl,?_⟩
 simp only[bV]
 exact⟨v,[.bool b],rfl,by simp,by simpa[LVR]using h,.bool b,[],rfl,by simp,by simp[LVR,VR],rfl⟩
theorem nj (R:Rel G L s μ a.tmps w)(hd: ∀d,o.dst=some d→d<a.tmps.size)(hk:KOK L G w s μ a o.dst k r K){ts:List Nat}{v:LV}(hno: ∀cv b,¬aE v cv b)
  (h:k v (ad ts s) μ=some r) (hrun: ∃cv,(execOp a.eval o).run P w= .ok (.value cv) w∧LVR G w L s.lam.length v cv):o.wp P a w K Q:=by
 obtain⟨cv,h1,h2⟩:=hrun
 exact dn R hd hk h h1 h2 (fun b hb=>absurd hb (hno cv b))
theorem A6 {x:Operand}{xt t:TypeId}{ok:Bool}(ho:o.op= .typeAssert x xt t ok)(R:Rel G L s μ a.tmps w)(hd: ∀d,o.dst=some d→d<a.tmps.size)(hk:KOK L G w s μ a o.dst k r K)
  (hop:(iv P (evA h s.fr x) t ok fun v=>k v (ad h.take s) μ)=some r):o.wp P a w K Q:=by
 unfold iv at hop
 split at hop<;>try(simp at hop;done)
 rename_i d hni hu
 split at hop<;>try(simp at hop;done)
 obtain⟨z,hz,hop2⟩:=ab.1 hop
 clear hop
 obtain⟨zv,hzr,hzv⟩:=xK (G:=G) (w:=w) hz
 have hno: ∀c b (cv:Value) bl,¬aE (.ltup [.cv c,.cv (.v (.bool b))]) cv bl:=fun _ _ _ _ h=>by simp[aE]at h
 have hmiss : (Instr.typeAssert (a.eval x) xt t true).run P w = (match a.eval x with
   | .nilIface=> .ok (.tuple #[zv,.bool false]) w
   | .iface u v=>if u=t then .ok (.tuple #[v,.bool true]) w else .ok (.tuple #[zv,.bool false]) w
   |_=>(Instr.typeAssert (a.eval x) xt t true).run P w):=by
  unfold Instr.typeAssert
  cases hx:a.eval x<;>try rfl
  ·rename_i u v
   simp only[Sem.run_bind,run_underlying hu,Result.andThen_ok]
   cases d<;>first
    |(exact absurd hu (hni _))
    |(by_cases hut:u=t<;>simp[hut,hzr])
  ·simp only[Sem.run_bind,run_underlying hu,Result.andThen_ok]
   cases d<;>first
    |(exact absurd hu (hni _))
    |simp[hzr]
 split at hop2
 ·rename_i u c he
  have hv:=cC R he
  simp only[VR]at hv
  obtain⟨v,e,hc⟩:=hv
  rw[e]at hmiss
  split at hop2
  ·rename_i hut
   have:=Nat.eq_of_beq_eq_true hut
   subst this
   refine nj R hd hk (hno _ _) hop2 ⟨.tuple #[v,.bool true],?_,tN hc⟩
   simp only[execOp,ho,e]
   refine cN ?_
   rw[hmiss]
   simp
  ·rename_i hut
   refine nj R hd hk (hno _ _) hop2 ⟨.tuple #[zv,.bool false],?_,tN hzv⟩
   simp only[execOp,ho,e]
   refine cN ?_
   rw[hmiss]
   have: ¬u=t:=fun e=>by subst e;simp[Nat.beq_refl]at hut
   simp[this]
 ·rename_i he
  have hv:=cC R he
  simp only[VR]at hv
  rw[hv]at hmiss
  refine nj R hd hk (hno _ _) hop2 ⟨.tuple #[zv,.bool false],?_,tN hzv⟩
  simp only[execOp,ho,hv]
  refine cN ?_
  rw[hmiss]
 ·simp at hop2
theorem Kg {t:TypeId}(ho:o.op= .makeMap t none)(R:Rel G L s μ a.tmps w)(hd: ∀d,o.dst=some d→d<a.tmps.size)(hk:KOK L G w s μ a o.dst k r K)
  (hop:k (.mloc (ad h.take s).lam.length) {ad h.take s with lam:=(ad h.take s).lam++[.map [] []]} μ=some r):o.wp P a w K Q:=by
 obtain⟨R1,E,_⟩:=dB R h.take
 obtain⟨R2,hle,hT,hv⟩:=R1.newMap
 have E1:Ext L (az G w s μ a.tmps) G w (G.setL L (ad h.take s).lam.length w.heap.size 0 (ad h.take s).pushed) (w.alloc (.map #[] 0)) (az (G.setL L (ad h.take s).lam.length w.heap.size 0 (ad h.take s).pushed) (w.alloc (.map #[] 0)) {ad h.take s with lam:=(ad h.take s).lam++[.map [] []]} μ a.tmps):=by
  refine⟨hle,rfl,rfl,rfl,by simp,fun b hb hn=> ?_,fun b hb=> ?_,fun l hl=>Cw l hl⟩
  ·refine⟨heap_alloc_old w _ hb,?_⟩
   have:b≠w.heap.size:=by omega
   simp[Gh.setL,this]
  ·rcases hT b hb with h1|rfl
   ·exact E.grow b h1
   ·exact .inr (Nat.le_refl _)
 obtain⟨R3,E3⟩:=cx (dst:=o.dst) (v:= .mloc (ad h.take s).lam.length) (cv:= .map (some w.heap.size)) R2 E1 hv (fun b hb=>by simp[aE]at hb) hd
 refine de ?_ (hk _ _ μ _ _ _ hop R3 E3)
 simp only[execOp,ho]
 refine cN ?_
 simp[Instr.makeMap]
theorem wT {t:TypeId}{q:TypeDesc×TypeId}(h:z7 P t=some q): ∃kt,P.underlying t=some (.map kt q.2)∧P.underlying kt=some q.1:=by
 unfold z7 at h
 split at h<;>try(simp at h;done)
 rename_i kt e hu
 obtain⟨d,hd,h⟩:=ab.1 h
 simp only[Option.some.injEq]at h
 subst h
 exact⟨kt,hu,hd⟩
theorem y0 {d:TypeDesc}{x:LV}{kv:Value}{nl:Nat}{v:Value}(h:Hr d x=some kv)(hv:LVR G w L nl x v):v=kv∧IsKey d kv:=by
 unfold Hr at h
 split at h<;>try(simp at h;done)
 ·obtain⟨n,h1,h2⟩:=ab.1 h
  simp only[Option.some.injEq]at h2
  subst h2
  rw[g0 h1]at hv
  simp only[LVR,VR]at hv
  exact⟨hv,rfl⟩
 ·obtain⟨n,h1,h2⟩:=ab.1 h
  simp only[Option.some.injEq]at h2
  subst h2
  rw[fv h1]at hv
  simp only[LVR,VR]at hv
  exact⟨hv,trivial⟩
 ·obtain⟨n,h1,h2⟩:=ab.1 h
  simp only[Option.some.injEq]at h2
  subst h2
  rw[ft h1]at hv
  simp only[LVR,VR]at hv
  exact⟨hv,trivial⟩
theorem A5 {t:TypeId}{m x y:Operand}(ho:o.op= .insert t m x y∨o.op= .mapUpdate t m x y)(R:Rel G L s μ a.tmps w)(hd: ∀d,o.dst=some d→d<a.tmps.size)(hk:KOK L G w s μ a o.dst k r K)
  (hop:gE P t (evA h s.fr m) (evA h s.fr x) (evA h s.fr y) (ad h.take s) μ k=some r):o.wp P a w K Q:=by
 obtain⟨R1,E1,hO⟩:=dB R h.take
 have hl:=aU h.take s
 have hexec: ∀{w':World},(Instr.mapUpdate t (a.eval m) (a.eval x) (a.eval y)).run P w= .ok () w'→(execOp a.eval o).run P w= .ok .skip w':=by
  intro w' hw
  rcases ho with ho|ho<;>(simp only[execOp,ho];exact Ji hw)
 unfold gE at hop
 obtain⟨q,hq,hop⟩:=ab.1 hop
 obtain⟨kt,hu,hkd⟩:=wT hq
 obtain⟨kv,hkv,hop⟩:=ab.1 hop
 obtain⟨hkx,hkk⟩:=y0 hkv (aZ R h x).1
 obtain⟨c,hc,hop⟩:=ab.1 hop
 have hcv:=eQ hc (aZ R h y).1
 split at hop
 ·rename_i i he
  have hm:=(aZ R h m).1
  rw[he]at hm
  simp only[LVR]at hm
  split at hop<;>try(simp at hop;done)
  rename_i ks vs hob
  obtain⟨hg,hop⟩:=aI.1 hop
  rw[hl.1]at hob
  have hobr:=R.lam i
  rw[hob]at hobr
  simp only[ObR]at hobr
  obtain⟨es,clk,hb,hO0,hM⟩:=hobr
  obtain⟨es',clk',hrun,hkeys,hvals⟩:=Gj (P:=P) (c:=c) (v:=a.eval y) hu hkd hb hkk hM (lf hg)
  have hob2:aD (μ++[(ad h.take s).lam]) L i= .map ks vs:=by rw[hl.1,←R.lev];exact bZ.trans hob
  obtain⟨R2,E2⟩:=R1.setMap (s1:={ad h.take s with lam:=(ad h.take s).lam.set i (.map (kI ks kv) (kJ ks vs kv c))}) (μ1:=μ) hob2 hb rfl rfl (by simp) rfl (by rw[←R.lev];exact ss.symm) (es':=es') (clk':=clk')
   (fun w' hle=>⟨fun _=>⟨hkeys,hvals G w' (gj hle vs _ hM.2) (bm hle c _ hcv)⟩,fun e=>by omega⟩)
  obtain⟨R3,E3⟩:=cx (dst:=o.dst) (v:= .cv .undef) (cv:=undef) R2 (E1.trans E2) (by simp[LVR,VR]) (fun b hb=>by simp[aE]at hb) hd
  refine mA (hexec ?_) (hk _ _ _ _ _ G hop R3 E3)
  rw[hm.2,hkx]
  exact hrun
 ·rename_i lev i he
  have hm:=cC R he
  simp only[VR]at hm
  split at hop<;>try(simp at hop;done)
  rename_i ks vs hob
  obtain⟨hg,hop⟩:=aI.1 hop
  simp only[Bool.and_eq_true]at hg
  have hlt:lev<μ.length:=by
   by_cases hq:lev<μ.length
   ·exact hq
   ·simp only[a8]at hob
    rw[List.getElem?_eq_none (by omega)]at hob
    simp at hob
  have hobr:=R.mu lev i (by rw[←R.lev];exact hlt)
  rw[hob]at hobr
  simp only[ObR]at hobr
  obtain⟨es,clk,hb,hO0,hM⟩:=hobr
  obtain⟨es',clk',hrun,hkeys,hvals⟩:=Gj (P:=P) (c:=c) (v:=a.eval y) hu hkd hb hkk hM (lf hg.1)
  have hob2:aD (μ++[(ad h.take s).lam]) lev i= .map ks vs:=(bz hlt).trans hob
  obtain⟨R2,E2⟩:=R1.setMap (s1:=ad h.take s) (μ1:=bD μ lev i (.map (kI ks kv) (kJ ks vs kv c))) hob2 hb rfl rfl rfl ib.1 (lM hlt).symm (es':=es') (clk':=clk')
   (fun w' hle=>⟨fun e=>by rw[R.lev]at hlt;omega,fun _=>⟨hkeys,hvals _ w' (gj (hle.below lev) vs _ hM.2) (bm (hle.below lev) c _ (AO c _ hg.2 hcv))⟩⟩)
  obtain⟨R3,E3⟩:=cx (dst:=o.dst) (v:= .cv .undef) (cv:=undef) R2 (E1.trans E2) (by simp[LVR,VR]) (fun b hb=>by simp[aE]at hb) hd
  refine mA (hexec ?_) (hk _ _ _ _ _ G hop R3 E3)
  rw[hm.2,hkx]
  exact hrun
 ·simp at hop
theorem HF {x:LV}{q:List Value×List CV}{cv:Value}(R:Rel G L s μ a.tmps w)(h:tB x s μ=some q)(hv:LVR G w L s.lam.length x cv):
  (q=([],[])∧cv= .map none)∨ ∃r es clk,cv= .map (some r)∧w.heap[r]? =some (.map es clk)∧rb G w q.1 q.2 es:=by
 unfold tB at h
 split at h
 ·simp only[Option.some.injEq]at h
  subst h
  simp only[LVR,VR]at hv
  obtain⟨r,es,clk,h1,h2,h3,h4,h5⟩:=hv
  exact .inr ⟨r,es,clk,h1,h2,h4,h5⟩
 ·simp only[Option.some.injEq]at h
  subst h
  simp only[LVR,VR]at hv
  exact .inl ⟨rfl,hv⟩
 ·rename_i i
  split at h<;>try(simp at h;done)
  rename_i ks vs hob
  simp only[Option.some.injEq]at h
  subst h
  simp only[LVR]at hv
  have hobr:=R.lam i
  rw[hob]at hobr
  simp only[ObR]at hobr
  obtain⟨es,clk,hb,_,hM⟩:=hobr
  exact .inr ⟨_,es,clk,hv.2,hb,hM⟩
 ·rename_i lev i
  split at h<;>try(simp at h;done)
  rename_i ks vs hob
  simp only[Option.some.injEq]at h
  subst h
  simp only[LVR,VR]at hv
  have hlt:lev<μ.length:=by
   by_cases hq:lev<μ.length
   ·exact hq
   ·simp only[a8]at hob
    rw[List.getElem?_eq_none (by omega)]at hob
    simp at hob
  have hobr:=R.mu lev i (by rw[←R.lev];exact hlt)
  rw[hob]at hobr
  simp only[ObR]at hobr
  obtain⟨es,clk,hb,_,hM⟩:=hobr
  exact .inr ⟨_,es,clk,hv.2,hb,lr (mL G w lev) hM⟩
 ·simp at h
theorem Nu {t:TypeId}{m x:Operand}{ok:Bool}(ho:o.op= .lookup t m x ok)(R:Rel G L s μ a.tmps w)(hd: ∀d,o.dst=some d→d<a.tmps.size)(hk:KOK L G w s μ a o.dst k r K)
  (hop:(iB P t (evA h s.fr m) (evA h s.fr x) ok (ad h.take s) μ fun v=>k v (ad h.take s) μ)=some r):o.wp P a w K Q:=by
 obtain⟨R1,E1,hO⟩:=dB R h.take
 have hl:=aU h.take s
 unfold iB at hop
 obtain⟨q,hq,hop⟩:=ab.1 hop
 obtain⟨kt,hu,hkd⟩:=wT hq
 obtain⟨kv,hkv,hop⟩:=ab.1 hop
 obtain⟨hkx,hkk⟩:=y0 hkv (aZ R h x).1
 obtain⟨pq,hpq,hop⟩:=ab.1 hop
 obtain⟨hg,hop⟩:=aI.1 hop
 have hmv:LVR G w L (ad h.take s).lam.length (evA h s.fr m) (a.eval m):=by rw[hl.1];exact(aZ R h m).1
 have hmo:=HF R1 hpq hmv
 have fin: ∀(c:CV) (v:Value) (b:Bool),VR G w c v→(Instr.lookup t (a.eval m) (a.eval x) ok).run P w= .ok (if ok then .tuple #[v,.bool b]else v) w→
   (ok=true→k (.ltup [.cv c,.cv (.v (.bool b))]) (ad h.take s) μ=some r)→(ok=false→k (.cv c) (ad h.take s) μ=some r)→o.wp P a w K Q:=by
  intro c v b hc hrun hT hF
  cases ok with
  |true=>
   refine nj R hd hk (fun cv bl hh=>by simp[aE]at hh) (hT rfl) ⟨.tuple #[v,.bool b],?_,tN hc⟩
   simp only[execOp,ho]
   exact cN (by simpa using hrun)
  |false=>
   refine nj R hd hk (fun cv bl hh=>by simp[aE]at hh) (hF rfl) ⟨v,?_,by simpa[LVR]using hc⟩
   simp only[execOp,ho]
   exact cN (by simpa using hrun)
 have runs: ∀(es:Array MapEntry),(a.eval m= .map none∧es= #[]∨ ∃r clk,a.eval m= .map (some r)∧w.heap[r]? =some (.map es clk))→rb G w pq.1 pq.2 es→o.wp P a w K Q:=by
  intro es hes hM
  obtain⟨f1,f2⟩:=Bx (G:=G) (w:=w) hkk (i:=0) hM.1 hM.2 (lf hg)
  have hnone:Instr.findNow q.1 kv es.toList 0=some none→ ∀v,(zeroValue q.2).run P w= .ok v w→(Instr.lookup t (a.eval m) (a.eval x) ok).run P w= .ok (if ok then .tuple #[v,.bool false]else v) w:=by
   intro hf v hz
   rcases hes with⟨e1,rfl⟩|⟨r,clk,e1,hb⟩
   ·simp[Instr.lookup,run_underlying hu,e1,hkx,MapKept.run_checkKey hkd hkk,MapKept.run_findKey hkd hf,hz]
   ·simp[Instr.lookup,run_underlying hu,e1,hkx,MapKept.run_getObj_map hb,MapKept.run_checkKey hkd hkk,MapKept.run_findKey hkd hf,hz]
  have hsome: ∀j v,Instr.findNow q.1 kv es.toList 0=some (some (j,v))→(Instr.lookup t (a.eval m) (a.eval x) ok).run P w= .ok (if ok then .tuple #[v,.bool true]else v) w:=by
   intro j v hf
   rcases hes with⟨e1,rfl⟩|⟨r,clk,e1,hb⟩
   ·simp[Instr.lookup,run_underlying hu,e1,hkx,MapKept.run_checkKey hkd hkk,MapKept.run_findKey hkd hf]
   ·simp[Instr.lookup,run_underlying hu,e1,hkx,MapKept.run_getObj_map hb,MapKept.run_checkKey hkd hkk,MapKept.run_findKey hkd hf]
  unfold optE at hop
  cases hfd:fU pq.1 pq.2 kv with
  |none=>
   rw[hfd]at hop
   obtain⟨z,hz,hop⟩:=ab.1 hop
   obtain⟨zv,hzr,hzv⟩:=xK (G:=G) (w:=w) hz
   exact fin z zv false hzv (hnone (f1 hfd) zv hzr) (fun e=>by subst e;exact hop) (fun e=>by subst e;exact hop)
  |some c=>
   rw[hfd]at hop
   obtain⟨j,v,hf,hcv⟩:=f2 c hfd
   unfold f7 at hop
   obtain⟨c',hc',hcr⟩:=nr hop
   exact fin c' v true (hcr G w L 0 v (by simpa[LVR]using hcv)) (hsome j v hf) (fun e=>by subst e;exact hc') (fun e=>by subst e;exact hc')
 rcases hmo with⟨e1,e2⟩|⟨r,es,clk,e1,hb,hM⟩
 ·exact runs #[] (.inl ⟨e2,rfl⟩) (by rw[e1];exact⟨rfl,by simp[VRL]⟩)
 ·exact runs es (.inr ⟨r,clk,e1,hb⟩) hM
end
end Go.Abs
set_option linter.unusedVariables false
set_option linter.unusedSimpArgs false
namespace Go.Abs
open Go
section
variable {P:Program}{W0:World}{ρ:Rho}{α:Type}{L:Nat}{G:Gh}{w:World}{s:S}{μ:Mu}{a:Act}{o:Oper}{h:OpHint}{k:LV→S→Mu→Option α}{p:CV→S→Mu→Option α}{r:α}{K:Act→World→Prop}{Q:Exit→Act→World→Prop}
def ew (P:Program)(W0:World)(ρ:Rho):Prop:= ∀f args μ out,ρ.call f args μ=some out→cG P W0 f args μ out
theorem Cr {c:Call}{fx:Operand}{f:FuncId}{vs:Array Value}(ho:o.op= .call c)(hc:c.callee= .value fx)(he:a.eval fx= .func (.func f) #[] vs)
  (hfn: ∃fn cd,P.funcs[f]? =some fn∧fn.body=some cd∧(fn.name == "runtime.NumGoroutine")=false):
  (execOp a.eval o).run P w= .ok (.enter f (c.args.toList.map a.eval++vs.toList).toArray) w:=by
 obtain⟨fn,cd,h1,h2,h3⟩:=hfn
 have e:(c.args.toList.map a.eval++vs.toList).toArray=c.args.map a.eval++vs:=by
  apply Array.ext'
  simp
 rw[e]
 simp only[execOp,ho,resolve,hc,he,Deferred.ofValue,Sem.run_bind,Sem.run_pure,Result.andThen_ok,invoke,callFunc,run_program,h1,h3,h2,Option.isNone_some,Bool.false_eq_true,if_false,Array.empty_append]
theorem Kd {c:Call}{fx:Operand}(ho:o.op= .call c)(hc:c.callee= .value fx)(R:Rel G L s μ a.tmps w)(hd: ∀d,o.dst=some d→d<a.tmps.size)(hk:KOK L G w s μ a o.dst k r K)(hpk:POK L G w s μ a p r Q)
  (hrho:ew P W0 ρ) (hkn:Kn W0 w (az G w s μ a.tmps)) {f:FuncId} {caps:List LV} (hdis:fp c.args.toList=true) {vs:Array Value} (he:a.eval fx= .func (.func f) #[] vs) (hcaps:bV G w L s.lam.length caps vs.toList)
  (hop:fQ P ρ h o.type f (c.args.toList.map (evA h s.fr)++caps) (ad h.take s) μ k p=some r):o.wp P a w K Q:=by
 have A:=Np R (h:=h) hdis hcaps
 have hl:=aU h.take s
 unfold fQ at hop
 split at hop
 ·obtain⟨hg,hop2⟩:=aI.1 hop
  simp only[Bool.and_eq_true,Bool.not_eq_true']at hg
  rw[hl.2]at hg
  exact Nt R hd hk hpk hrho hkn hg.1 hg.2 A (Cr ho hc he) hop2
 ·obtain⟨args',ha,hop2⟩:=ab.1 hop
  obtain⟨l,hlm,hop3⟩:=ab.1 hop2
  rw[hl.1]at hlm
  exact Ns R hd hk hpk hrho hkn A ha hlm (Cr ho hc he) hop3
theorem I8 (R:Rel G L s μ a.tmps w)(hd: ∀d,o.dst=some d→d<a.tmps.size)(hk:KOK L G w s μ a o.dst k r K)(hpk:POK L G w s μ a p r Q)(hrho:ew P W0 ρ)(hkn:Kn W0 w (az G w s μ a.tmps))
  (hop:cK P ρ h o s μ k p=some r):o.wp P a w K Q:=by
 unfold cK at hop
 dsimp only at hop
 split at hop
 ·exact Kh (.inl (by assumption)) R hd hk hop
 ·exact Kh (.inr (by assumption)) R hd hk hop
 ·exact RM (by assumption) R hd hk hop
 ·exact Qe (by assumption) R hd hk hop
 ·exact Tm (by assumption) R hd hk hop
 ·exact Qg (by assumption) R hd hk hop
 ·split at hop<;>try(simp at hop;done)
  obtain⟨sz,h1,hop2⟩:=ab.1 hop
  obtain⟨h2,hop3⟩:=aI.1 hop2
  obtain⟨zc,h3,hop4⟩:=ab.1 hop3
  obtain⟨ps,h4,hop5⟩:=ab.1 hop4
  obtain⟨xs,h5,hop6⟩:=ab.1 hop5
  obtain⟨h6,hop7⟩:=aI.1 hop6
  obtain⟨h7,hop8⟩:=aI.1 hop7
  clear hop hop2 hop3 hop4 hop5 hop6 hop7
  rw[Bool.and_eq_true]at h7
  exact A4 (by assumption) R hd hk (by assumption) h1 h2 h3 h4 h5 (Nat.eq_of_beq_eq_true h6) (Nat.le_of_ble_eq_true h7.2) h7.1 hop8
 ·exact RL (by assumption) R hd hk hop
 ·exact Ql (by assumption) R hd hk hop
 ·exact GZ (by assumption) R hd hk hop
 ·exact Qf (by assumption) R hd hk hop
 ·exact RN (by assumption) R hd hk hop
 ·refine Ke (by assumption) R hd hk hop fun e l h1 h2 h3 h4 h5 h6=>G5 (by assumption) R hd hk h1 h2 h3 h4 h5 h6
 ·split at hop<;>try(simp at hop;done)
  rename_i hni hu
  exact wz (by assumption) hu (fun ms e=>hni ms (by first|exact e|rw[hu,e])) R hd hk hop
 ·split at hop<;>try(simp at hop;done)
  split at hop<;>try(simp at hop;done)
  exact GY (by assumption) (by assumption) R hd hk hop
 ·split at hop<;>try(simp at hop;done)
  exact Qk (by assumption) R hd hk hop
 ·exact CZ (by assumption) R hd hk hop
 ·exact Qh (by assumption) R hd hk hop
 ·exact C0 (by assumption) R hd hk hop
 ·exact Qi (by assumption) R hd hk hop
 ·exact Kf (by assumption) R hd hk hop
 ·split at hop<;>try(simp at hop;done)
  exact Qj (by assumption) R hpk (by assumption) hop
 ·exact A6 (by assumption) R hd hk hop
 ·split at hop<;>try(simp at hop;done)
  exact Kg (by assumption) R hd hk hop
 ·exact A5 (.inl (by assumption)) R hd hk hop
 ·exact A5 (.inr (by assumption)) R hd hk hop
 ·exact Nu (by assumption) R hd hk hop
 ·split at hop
  ·split at hop
   ·split at hop<;>try(simp at hop;done)
    exact Tn (by assumption) (by assumption) (by assumption) (by assumption) R hd hk hop
   ·split at hop<;>try(simp at hop;done)
    rename_i c hc hb x y t xt hx ht
    exact Nr (ts:=[xt]) (by assumption) (by assumption) hx ht R hd hk (by simp) hop
   ·split at hop<;>try(simp at hop;done)
    exact To (by assumption) (by assumption) (by assumption) R hd hk hop
   ·split at hop<;>try(simp at hop;done)
    exact Tp (by assumption) (by assumption) (by assumption) R hd hk hop
   ·simp at hop
  ·obtain⟨hdis,hop2⟩:=aI.1 hop
   clear hop
   split at hop2
   ·rename_i f caps he
    have hv:=cC R he
    simp only[VR]at hv
    obtain⟨vs,e,hl⟩:=hv
    refine Kd (by assumption) (by assumption) R hd hk hpk hrho hkn hdis e ?_ hop2
    generalize vs.toList=vl at hl
    clear hop2 he e
    induction caps generalizing vl with
    |nil=>simpa[bV,VRL]using hl
    |cons c caps ih=>
     simp only[VRL]at hl
     obtain⟨v,r,rfl,h1,h2⟩:=hl
     simp only[List.map_cons,bV]
     exact⟨v,r,rfl,by simp,by simpa[LVR]using h1,ih r h2⟩
   ·rename_i f caps he
    have hv:=fun x (e:evA h s.fr x= .lclo f caps)=>e▸(aZ R h x).1
    replace hv:=hv _ he
    simp only[LVR]at hv
    obtain⟨vs,e,hl⟩:=hv
    exact Kd (by assumption) (by assumption) R hd hk hpk hrho hkn hdis e hl hop2
   ·simp at hop2
  ·simp at hop
 ·simp at hop
theorem KOK.ext {G1:Gh}{s1:S}{μ1:Mu}(E:Ext L (az G w s μ a.tmps) G w G1 w (az G1 w s1 μ1 a.tmps)){dst:Option Tmp}(hk:KOK L G w s μ a dst k r K):KOK L G1 w s1 μ1 a dst k r K:=
 fun v s' μ' cv w' G' h R E'=>hk v s' μ' cv w' G' h R (E.trans E')
theorem POK.ext {G1:Gh}{s1:S}{μ1:Mu}(E:Ext L (az G w s μ a.tmps) G w G1 w (az G1 w s1 μ1 a.tmps))(hk:POK L G w s μ a p r Q):POK L G1 w s1 μ1 a p r Q:=
 fun v s' μ' cv w' G' h R hv E'=>hk v s' μ' cv w' G' h R hv (E.trans E')
theorem nO (R:Rel G L s μ a.tmps w)(hd: ∀d,o.dst=some d→d<a.tmps.size)(hk:KOK L G w s μ a o.dst k r K)(hpk:POK L G w s μ a p r Q)(hrho:ew P W0 ρ)(hkn:Kn W0 w (az G w s μ a.tmps))
  (hop:opK P ρ h o s μ k p=some r):o.wp P a w K Q:=by
 unfold opK at hop
 obtain⟨s1,h1,hop⟩:=ab.1 hop
 obtain⟨s2,h2,hop⟩:=ab.1 hop
 obtain⟨G1,R1,E1⟩:=qP h1 R
 obtain⟨G2,R2,E2⟩:=m6 h2 R1
 exact I8 R2 hd (hk.ext (E1.trans E2)) (hpk.ext (E1.trans E2)) hrho (hkn.ext (E1.trans E2)) hop
end
end Go.Abs
