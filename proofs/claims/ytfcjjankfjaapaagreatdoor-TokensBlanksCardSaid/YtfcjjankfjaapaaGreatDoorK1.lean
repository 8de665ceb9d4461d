/-
  The statement TokensBlanksCardSaid, proved; part 2 of 8 of its proof.
  One operation: parts, addresses, loads.
  One operation: parts of strings, slices and arrays; lengths; conversions that make no memory.
  One operation: those that make memory.
  One operation: slice literals, a string's bytes.
  One operation: stores.
  One operation: append.
  Calls: what a call is asked to do, and the caller's state behind it.
  Calls that see nothing of the caller's own variables.
  Calls that see the caller's own variables: they are handed down as a new level of the outer heap.
  Maps, and what an interface value holds.
  One operation: all of them.
  The operations of a region, in the program's order.
  What comes behind an operation does not matter to it.
-/
import Derived.Test.YtfcjjankfjaapaaGreatDoorK0
import Derived.MapKept
set_option linter.all false
set_option linter.unusedSectionVars false
set_option linter.unusedVariables false
set_option linter.unusedSimpArgs false
namespace Go.Abs
open Go
theorem mn (G:Gh)(w:World)(lev:Nat):Le (G.below lev) w G w:=by
 refine⟨fun _ _ _ h hb=>⟨h,hb⟩,fun l i h=> ?_,fun _ _ _ h hc=>⟨h,hc⟩,fun b cur e fz h=>⟨cur,fz,h,rfl⟩⟩
 simp only[Gh.below]at h ⊢
 split at h
 ·refine⟨?_,?_,?_⟩<;>first|exact h|trivial|rfl
 ·omega
mutual
theorem m7 {G:Gh}{w:World}{lev L nl:Nat}: ∀(x:LV) (v:Value),LVR (G.below lev) w lev 0 x v→LVR G w L nl x v
 | .cv c,v,h=>by simp only[LVR]at h ⊢; exact bk (mn G w lev) c v h
 | .osl xs,v,h=>by simp only[LVR]at h ⊢; exact jw (mn G w lev) (fun _ _ _ _=>⟨rfl,rfl⟩) h
 | .loc i off,v,h=>by simp only[LVR]at h;omega
 | .lsl i off len,v,h=>by simp only[LVR]at h;omega
 | .mloc i,v,h=>by simp only[LVR]at h;omega
 | .tloc i t n,v,h=>by simp only[LVR]at h;omega
 | .lclo f caps,v,h=>by
  simp only[LVR]at h ⊢
  obtain⟨vs,e,hl⟩:=h
  exact⟨vs,e,oY caps _ hl⟩
 | .ltup xs,v,h=>by
  simp only[LVR]at h ⊢
  obtain⟨vs,e,hl⟩:=h
  exact⟨vs,e,oY xs _ hl⟩
theorem oY {G:Gh}{w:World}{lev L nl:Nat}: ∀(xs:List LV) (vs:List Value),bR (G.below lev) w lev 0 xs vs→bR G w L nl xs vs
 |[],vs,h=>by simpa[bR]using h
 |x::xs,vs,h=>by
  simp only[bR]at h ⊢
  obtain⟨v,r,e,h0,h1,h2⟩:=h
  exact⟨v,r,e,h0,m7 x v h1,oY xs r h2⟩
end
section
variable {P:Program}{ρ:Rho}{α:Type}{L:Nat}{G:Gh}{w:World}{s:S}{μ:Mu}{a:Act}{o:Oper}{h:OpHint}{k:LV→S→Mu→Option α}{p:CV→S→Mu→Option α}{r:α}{K:Act→World→Prop}{Q:Exit→Act→World→Prop}
theorem FS {cs:List LV}{l:List CV}{nl:Nat}{vs:List Value}(hl:qb cs=some l)(hlen:vs.length=cs.length)(hr: ∀j x,cs[j]? =some x→LVR G w L nl x (vs.getD j undef)):VRL G w l vs:=by
 obtain⟨e,hg⟩:=rX hl
 refine eA (by omega) fun j c v hc hv=> ?_
 obtain⟨x,hx,hgc⟩:=hg j c hc
 have:=hr j x hx
 rw[List.getD_eq_getElem?_getD,hv]at this
 exact eH hgc this
theorem mU {t:TypeId}{ob:Ob}{off nl b sz:Nat}{v:LV}(hob:ObR G w L nl b sz ob)(h:oG P t ob off=some v)(hd: ∃d,P.underlying t=some d):
  ∃cv,(Instr.loadAt t (.pointer (some ⟨b,off,none⟩))).run P w= .ok cv w∧LVR G w L nl v cv∧ ∀b',¬aD v cv b':=by
 unfold oG at h
 cases ob with
 |dead=>simp at h
 |map ks vs=>simp at h
 |cells cs=>
  simp only[ObR]at hob h
  obtain⟨cur,e,fz,hb,hu,hO,hsz,hr⟩:=hob
  have hcell: ∀(n:Nat) (hn:off+n≤cur.size) (j:Nat) v,((List.range n).map fun j=>cur.getD (off+j) undef)[j]? =some v→w.cell? ⟨b,off+j,none⟩=some v:=by
   intro n hn j v hv
   simp only[List.getElem?_map,Option.map_eq_some_iff]at hv
   obtain⟨q,hq,rfl⟩:=hv
   have hj:j<n:=by have:=(List.getElem?_eq_some_iff.1 hq).1;simpa using this
   have:q=j:=by rw[List.getElem?_range hj]at hq;exact(Option.some.inj hq).symm
   subst this
   exact cell_of_heap hb (by omega)
  split at h
  ·rename_i ha
   obtain⟨n,hn,h⟩:=ab.1 h
   split at h<;>try(simp at h;done)
   rename_i hle
   have hle:=Nat.le_of_ble_eq_true hle
   obtain⟨l,hl,h⟩:=ab.1 h
   simp only[Option.some.injEq]at h
   subst h
   refine⟨_,(gV (hcell n (by omega)) hd).1 ha n hn (by simp),?_,fun b' hb'=>by simp[aD]at hb'⟩
   simp only[LVR,VR]
   refine⟨_,rfl,FS (L:=L) (nl:=nl) hl (by simp only[List.length_map,List.length_range,List.length_take,List.length_drop];omega) fun j x hx=> ?_⟩
   have hjn:j<n:=by
    have:=(List.getElem?_eq_some_iff.1 hx).1
    simp only[List.length_take]at this;omega
   rw[List.getElem?_take_of_lt hjn,List.getElem?_drop]at hx
   have:=hr (off+j) x hx
   rw[List.getD_eq_getElem?_getD]
   simpa[List.getElem?_map,List.getElem?_range hjn]using this
  ·rename_i ha
   split at h<;>simp only[Option.some.injEq,reduceCtorEq]at h
   rename_i x hx
   subst h
   have hj:off<cs.length:=(List.getElem?_eq_some_iff.1 hx).1
   refine⟨cur.getD off undef,(gV (vs:=[cur.getD off undef]) (fun j u hu=> ?_) hd).2 (by simpa using ha) _ rfl,jb (hr off x hx),fun b'=>ie⟩
   cases j with
   |zero=>simp only[List.getElem?_cons_zero,Option.some.injEq]at hu;subst hu;exact cell_of_heap hb (by omega)
   |succ j=>simp at hu
 |arr k cs=>
  simp only[ObR]at hob h
  obtain⟨hk,cur,e,fz,hb,hu,hO,hsz,hr⟩:=hob
  obtain⟨c,hc,h⟩:=ab.1 h
  simp only[Option.some.injEq]at h
  subst h
  have hO':Le G w (G.setO b cur.size) w→CL (G.setO b cur.size) w b 0 cs:=fun hle=>CL_of fun j c hc=>by
   have hj:j<cur.size:=by have:=(List.getElem?_eq_some_iff.1 hc).1;omega
   exact⟨cur.getD j undef,by rw[Nat.zero_add];exact cell_of_heap hb hj,by rw[dU];omega,bk hle c _ (hr j c hc)⟩
  unfold gf at hc
  split at hc
  ·rename_i ha
   obtain⟨n,hn,hc⟩:=ab.1 hc
   split at hc<;>simp only[Option.some.injEq,reduceCtorEq]at hc
   rename_i hle
   have hle:=Nat.le_of_ble_eq_true hle
   subst hc
   have hcell: ∀(j:Nat) v,((List.range n).map fun j=>cur.getD (off+j) undef)[j]? =some v→w.cell? ⟨b,off+j,none⟩=some v:=by
    intro j v hv
    simp only[List.getElem?_map,Option.map_eq_some_iff]at hv
    obtain⟨q,hq,rfl⟩:=hv
    have hj:j<n:=by have:=(List.getElem?_eq_some_iff.1 hq).1;simpa using this
    have:q=j:=by rw[List.getElem?_range hj]at hq;exact(Option.some.inj hq).symm
    subst this
    exact cell_of_heap hb (by omega)
   refine⟨_,(gV hcell hd).1 ha n hn (by simp),?_,fun b' hb'=>by simp[aD]at hb'⟩
   simp only[LVR,VR]
   refine⟨_,rfl,eA (by simp only[List.length_map,List.length_range,List.length_take,List.length_drop];omega) fun j c v hc hv=> ?_⟩
   have hjn:j<n:=by
    have:=(List.getElem?_eq_some_iff.1 hc).1
    simp only[List.length_take]at this;omega
   rw[List.getElem?_take_of_lt hjn,List.getElem?_drop]at hc
   have:=hr (off+j) c hc
   have hv':v=cur.getD (off+j) undef:=by
    simp only[List.getElem?_map,List.getElem?_range hjn,Option.map_some,Option.some.injEq]at hv
    exact hv.symm
   rw[hv'];exact this
  ·rename_i ha
   have hj:off<cs.length:=(List.getElem?_eq_some_iff.1 hc).1
   refine⟨cur.getD off undef,(gV (vs:=[cur.getD off undef]) (fun j u hu=> ?_) hd).2 (by simpa using ha) _ rfl,by simp only[LVR];exact hr off c hc,fun b' hb'=>by simp[aD]at hb'⟩
   cases j with
   |zero=>simp only[List.getElem?_cons_zero,Option.some.injEq]at hu;subst hu;exact cell_of_heap hb (by omega)
   |succ j=>simp at hu
theorem fa {t:TypeId}{cs:List CV}{off:Nat}{c:CV}(h:oM P t cs off=some c):gf P t cs off=some c∧ ∃d,P.underlying t=some d:=by
 unfold oM at h
 obtain⟨d,h1,h2⟩:=ab.1 h
 exact⟨h2,d,h1⟩
theorem N2 {t:TypeId}{x:Operand}{f:Nat}(ho:o.op= .field t x f)(R:Rel G L s μ a.tmps w)(hd: ∀d,o.dst=some d→d<a.tmps.size)(hk:KOK L G w s μ a o.dst k r K)
  (hop:opt (At P t (evA h s.fr x) f) (fun v=>k v (ac h.take s) μ)=some r):o.wp P a w K Q:=by
 obtain⟨v,h1,h2⟩:=ab.1 hop
 unfold At at h1
 obtain⟨q,hq,h1⟩:=ab.1 h1
 obtain⟨cs,hc,h1⟩:=ab.1 h1
 obtain⟨c,ht,h1⟩:=ab.1 h1
 simp only[Option.some.injEq]at h1
 subst h1
 have hv:=cx R (nr hc)
 simp only[VR]at hv
 obtain⟨vs,e,hl⟩:=hv
 obtain⟨u,h3,h4⟩:=Jl hq (fa ht).1 (fa ht).2 hl
 refine cw R hd hk h2 ⟨u,?_,h4⟩
 simp only[execOp,ho,e]
 exact cK h3
theorem FB {cs cs':List CV}{b off n:Nat}(h:CL G w b off cs)(hf:iG cs cs')(hn:n≤cs'.length):VR G w (.view (cs'.drop n)) (.pointer (some ⟨b,off+n,none⟩)):=by
 simp only[VR]
 exact⟨b,off+n,rfl,nW n (hf.CL h)⟩
theorem BW {t:TypeId}{x:Operand}{f:Nat}(ho:o.op= .fieldAddr t x f)(R:Rel G L s μ a.tmps w)(hd: ∀d,o.dst=some d→d<a.tmps.size)(hk:KOK L G w s μ a o.dst k r K)
  (hop:eB P h t (evA h s.fr x) f (fun v=>k v (ac h.take s) μ)=some r):o.wp P a w K Q:=by
 unfold eB at hop
 obtain⟨q,hq,hop⟩:=ab.1 hop
 have hrun: ∀b off,a.eval x= .pointer (some ⟨b,off,none⟩)→(execOp a.eval o).run P w= .ok (.value (.pointer (some ⟨b,off+q.1,none⟩))) w:=by
  intro b off e
  simp only[execOp,ho,e]
  exact cK (B7 hq b off)
 split at hop
 ·rename_i i off he
  have hv:=(a8 R h x).1
  rw[he]at hv
  simp only[LVR]at hv
  exact dD R hd hk hop (hrun _ _ hv.2) (by simp only[LVR];exact⟨hv.1,trivial⟩) (fun b hb=>by simp[aD]at hb)
 ·rename_i c he
  split at hop
  ·obtain⟨cs,hc,hop⟩:=ab.1 hop
   obtain⟨cs',h1,hf⟩:=jA hop
   obtain⟨hle,h2⟩:=aJ.1 h1
   have hv:=cx R (pK hc)
   simp only[VR]at hv
   obtain⟨b,off,e,hl⟩:=hv
   exact cw R hd hk h2 ⟨_,hrun b off e,FB hl hf (Nat.le_of_ble_eq_true hle)⟩
  ·obtain⟨q',hc,hop⟩:=ab.1 hop
   have hv:=cx R (nt hc)
   simp only[VR]at hv
   exact cw R hd hk hop ⟨_,hrun _ _ hv.2,by simp only[VR];exact⟨hv.1,trivial⟩⟩
 ·simp at hop
theorem rz {l:Lam}{i:Nat}{o:Ob}:ci (μ++[l]) μ.length i o=μ++[l.set i o]:=by
 simp[ci]
theorem ln {l:Lam}{lev i:Nat}{o:Ob}(h:lev<μ.length):ci (μ++[l]) lev i o=ci μ lev i o++[l]:=by
 unfold ci
 rw[List.getElem?_append_left h]
 cases μ[lev]? with
 |none=>rfl
 |some x=>simp[List.set_append_left _ _ h]
theorem tw {t:TypeId}{ob:Ob}{off:Nat}{q:LV×Ob}(h:lp P t ob off=some q):ef P t=false∧(∃d,P.underlying t=some d)∧ ∃cs,ob= .cells cs∧cs[off]? =some q.1∧q.2= .cells (cs.set off (strip q.1)):=by
 unfold lp at h
 obtain⟨d,hd,h⟩:=ab.1 h
 split at h<;>try(simp at h;done)
 rename_i ha
 cases ob with
 |dead=>simp at h
 |map ks vs=>simp at h
 |arr k cs=>simp at h
 |cells cs=>
  simp only at h
  cases hx:cs[off]? with
  |none=>simp[hx]at h
  |some x=>
   simp only[hx,Option.some.injEq]at h
   subst h
   exact⟨by simpa using ha,⟨d,hd⟩,cs,rfl,hx,rfl⟩
theorem AF {t:TypeId}{b off:Nat}{cur:Array Value}{e:TypeId}{fz:Nat×Nat}(hb:w.heap[b]? =some (.cells cur e fz))(hoff:off<cur.size)(ha:ef P t=false)(hd: ∃d,P.underlying t=some d):
  (Instr.loadAt t (.pointer (some ⟨b,off,none⟩))).run P w= .ok (cur.getD off undef) w:=by
 refine(gV (vs:=[cur.getD off undef]) (fun j u hu=> ?_) hd).2 ha _ rfl
 cases j with
 |zero=>simp only[List.getElem?_cons_zero,Option.some.injEq]at hu;subst hu;exact cell_of_heap hb hoff
 |succ j=>simp at hu
theorem dx (R:Rel G L s μ a.tmps w)(ts:List Nat):Rel G L (ac ts s) μ a.tmps w∧Ext L (ax G w s μ a.tmps) G w G w (ax G w (ac ts s) μ a.tmps)∧
  (∀l b,aw G w (ac ts s).fr a.tmps (μ++[(ac ts s).lam]) l b→(∀t,t∈ts→l≠ .fr t)∧aw G w s.fr a.tmps (μ++[s.lam]) l b):=by
 obtain⟨R',h⟩:=Rel.strips ts R
 have hl:=aT ts s
 refine⟨R',Ext.refl G w fun b hb=> ?_,fun l b hb=>h l b (by rw[←hl.1];exact hb)⟩
 rcases hb with⟨l,hb⟩|hb
 ·exact .inl ⟨l,(h l b (by rw[←hl.1];exact hb)).2⟩
 ·exact .inr (by rw[←hl.1];exact hb)
theorem Pu {t:TypeId}{x:Operand}(ho:o.op= .load t x)(R:Rel G L s μ a.tmps w)(hd: ∀d,o.dst=some d→d<a.tmps.size)(hk:KOK L G w s μ a o.dst k r K)
  (hop:f8 P h t (evA h s.fr x) (ac h.take s) μ k=some r):o.wp P a w K Q:=by
 have hl:=aT h.take s
 obtain⟨R1,E1,_⟩:=dx R h.take
 unfold f8 at hop
 split at hop
 ·rename_i i off he
  have hv:=(a8 R h x).1
  rw[he]at hv
  simp only[LVR]at hv
  split at hop<;>try(simp at hop;done)
  split at hop
  ·obtain⟨v,h1,h2⟩:=ab.1 hop
   unfold bH at h1
   obtain⟨d,h3,h1⟩:=ab.1 h1
   rw[hl.1]at h1
   obtain⟨cv,h4,h5,h6⟩:=mU (R.lam i) h1 ⟨d,h3⟩
   obtain⟨y,h7,h8⟩:=qu h2
   obtain⟨h9,h10⟩:=h8 G w L s.lam.length cv h5
   refine dD R hd hk h7 (cv:=cv) ?_ h9 (fun b hb=>absurd (h10 b hb) (h6 b))
   simp only[execOp,ho,hv.2]
   exact cK h4
  ·obtain⟨q,h1,h2⟩:=ab.1 hop
   obtain⟨ha,hu,cs,hob,hx,hq⟩:=tw h1
   have hob':aC (μ++[(ac h.take s).lam]) L i= .cells cs:=by rw[←R.lev];exact bY.trans hob
   obtain⟨cur,e,fz,hb,hoff,R2,hT,hval,hown⟩:=R1.takeOb (s1:={ac h.take s with lam:=(ac h.take s).lam.set i q.2}) (μ1:=μ) hob' hx rfl rfl (by simp) rfl (by rw[hq,←R.lev];exact rz.symm)
   have hval':LVR G w L (ac h.take s).lam.length q.1 (cur.getD off undef):=by
    rcases hval with⟨_,hval⟩|⟨h0,_⟩
    ·exact hval
    ·omega
   obtain⟨R3,E3⟩:=cN (dst:=o.dst) (v:=q.1) (cv:=cur.getD off undef) R2 (E1.weaken (fun _ h=>h) (fun b hb=>hT b hb)) (by simpa using hval') (fun b hb=>⟨(hown b hb).1,(hown b hb).2.1,(E1.grow b (hown b hb).2.2)⟩) hd
   refine dw ?_ (hk _ _ μ _ w G h2 R3 E3)
   simp only[execOp,ho,hv.2]
   exact cK (AF hb hoff ha hu)
 ·split at hop
  ·obtain⟨cs,hc,hop⟩:=ab.1 hop
   obtain⟨c,ht,hop⟩:=ab.1 hop
   have hv:=cx R (pK hc)
   simp only[VR]at hv
   obtain⟨b,off,e,hcl⟩:=hv
   obtain⟨u,h1,h2⟩:=By (fa ht).1 (fa ht).2 hcl
   refine cw R hd hk hop ⟨u,?_,h2⟩
   simp only[execOp,ho,e]
   exact cK h1
  ·obtain⟨q,hc,hop⟩:=ab.1 hop
   have hv:=cx R (nt hc)
   simp only[VR]at hv
   split at hop
   ·obtain⟨v,h1,hop⟩:=ab.1 hop
    unfold bH at h1
    obtain⟨d,h3,h1⟩:=ab.1 h1
    have hq:q.1<L:=by
     rw[←R.lev]
     by_cases hq:q.1<μ.length
     ·exact hq
     ·simp only[bb]at h1
      rw[List.getElem?_eq_none (by omega)]at h1
      simp[oG]at h1
    obtain⟨cv,h4,h5,h6⟩:=mU (R.mu q.1 q.2.1 hq) h1 ⟨d,h3⟩
    obtain⟨y,h7,h8⟩:=ek hop
    obtain⟨h9,h10⟩:=h8 G w L s.lam.length cv (m7 v cv h5)
    refine dD R hd hk h7 (cv:=cv) ?_ h9 (fun b hb=>absurd (h10 b hb) (h6 b))
    simp only[execOp,ho,hv.2]
    exact cK h4
   ·obtain⟨q',h1,hop⟩:=ab.1 hop
    obtain⟨ha,hu,cs,hob,hx,hq'⟩:=tw h1
    have hq:q.1<μ.length:=by
     by_cases hq:q.1<μ.length
     ·exact hq
     ·simp only[bb]at hob
      rw[List.getElem?_eq_none (by omega)]at hob
      cases hob
    have hob':aC (μ++[(ac h.take s).lam]) q.1 q.2.1= .cells cs:=(bC hq).trans hob
    obtain⟨cur,e,fz,hb,hoff,R2,hT,hval,hown⟩:=R1.takeOb (s1:=ac h.take s) (μ1:=ci μ q.1 q.2.1 q'.2) hob' hx rfl rfl rfl gW.1 (by rw[hq'];exact(ln hq).symm)
    have hval':LVR G w L (ac h.take s).lam.length q'.1 (cur.getD q.2.2 undef):=by
     rcases hval with⟨h0,_⟩|⟨_,hval⟩
     ·rw[R.lev]at hq;omega
     ·exact m7 _ _ hval
    obtain⟨y,h7,h8⟩:=ek hop
    obtain⟨h9,h10⟩:=h8 G w L _ _ hval'
    obtain⟨R3,E3⟩:=cN (dst:=o.dst) (v:=y) (cv:=cur.getD q.2.2 undef) R2 (E1.weaken (fun _ h=>h) (fun b hb=>hT b hb)) h9 (fun b hb=>⟨(hown b (h10 b hb)).1,(hown b (h10 b hb)).2.1,(E1.grow b (hown b (h10 b hb)).2.2)⟩) hd
    refine dw ?_ (hk _ _ _ _ w G h7 R3 E3)
    simp only[execOp,ho,hv.2]
    exact cK (AF hb hoff ha hu)
 ·simp at hop
theorem KI {xs:List CV}{i:Int}{c:CV}(h:bZ xs i=some c):0≤i∧xs[i.toNat]? =some c:=by
 unfold bZ at h
 split at h<;>try(simp at h;done)
 rename_i h0
 exact⟨by simpa using h0,h⟩
theorem fH {i:Int}{n:Nat}(h:en i n=true):0≤i∧i<(n:Int):=by
 simpa[en]using h
theorem gM {c:CV}(h: ∀cs,c≠ .agg cs):c.cells=[c]:=by
 cases c<;>first|rfl|exact absurd rfl (h _)
theorem Lr {β:Type}{d:TypeDesc}{c:CV}{k:CV→Option β}{r:β}(h:iU d (.cv c) k=some r):
  ∃c':CV,k c'=some r∧(c'=c∨((∀cs,c≠ .agg cs)∧ ∀cs,c'≠ .agg cs))∧ ∀(G:Gh) (w:World) (v:Value),VR G w c v→VR G w c' v:=by
 obtain⟨c0,h0,hr⟩:=nN h
 unfold iU at h
 split at h<;>obtain⟨q,h1,h2⟩:=ab.1 h
 ·have:=gO h1
  injection this with this
  subst this
  exact⟨_,h2,.inl rfl,fun _ _ _ h=>h⟩
 ·have:=fh h1
  injection this with this
  subst this
  exact⟨_,h2,.inl rfl,fun _ _ _ h=>h⟩
 ·have:=fi h1
  injection this with this
  subst this
  exact⟨_,h2,.inl rfl,fun _ _ _ h=>h⟩
 ·refine⟨_,h2,.inr ⟨fun cs e=> ?_,by simp⟩,fun G w v hv=>fS (L:=0) (nl:=0) h1 (by simpa[LVR]using hv)⟩
  subst e
  simp[cF]at h1
 ·simp only[d8,Option.some.injEq]at h1
  subst h1
  exact⟨_,h2,.inl rfl,fun _ _ _ h=>h⟩
theorem BX {t:TypeId}{x ix:Operand}(ho:o.op= .indexAddr t x ix)(R:Rel G L s μ a.tmps w)(hd: ∀d,o.dst=some d→d<a.tmps.size)(hk:KOK L G w s μ a o.dst k r K)
  (hop:opt (lc (evA h s.fr ix)) (fun i=>eD P h t (evA h s.fr x) i fun v=>k v (ac h.take s) μ)=some r):o.wp P a w K Q:=by
 obtain⟨i,h1,hop⟩:=ab.1 hop
 obtain⟨kd,e1⟩:=nk h1
 have hi:=gN R e1
 have hrunS: ∀e n b off len cap,P.underlying t=some (.slice e)→cL P e=some n→a.eval x= .slice (some ⟨b,off,none⟩) len cap→0≤i→i<(len:Int)→
   (execOp a.eval o).run P w= .ok (.value (.pointer (some ⟨b,off+i.toNat*n,none⟩))) w:=by
  intro e n b off len cap hu hn ea h0 hlt
  simp only[execOp,ho,ea,hi]
  refine cK ?_
  simp[Instr.indexAt,asIntOf,run_underlying hu,h0,hlt,dE hn,eS]
 have hrunA: ∀e n b off len,P.underlying t=some (.array len e)→cL P e=some n→a.eval x= .pointer (some ⟨b,off,none⟩)→0≤i→i<(len:Int)→
   (execOp a.eval o).run P w= .ok (.value (.pointer (some ⟨b,off+i.toNat*n,none⟩))) w:=by
  intro e n b off len hu hn ea h0 hlt
  simp only[execOp,ho,ea,hi]
  refine cK ?_
  simp[Instr.indexAt,Instr.sureAddr,asIntOf,run_underlying hu,h0,hlt,dE hn,eS]
 have hsl: ∀xs e n,P.underlying t=some (.slice e)→cL P e=some n→VR G w (.sl xs) (a.eval x)→
   (opt (bZ xs i) fun c=>fO P e c fun c=>ay (Nat.beq c.cells.length n) (k (.cv (.view c.cells)) (ac h.take s) μ))=some r→o.wp P a w K Q:=by
  intro xs e n hu hn hv hop
  obtain⟨c,hc,hop⟩:=ab.1 hop
  obtain⟨h0,hget⟩:=KI hc
  simp only[VR]at hv
  obtain⟨A,len,cap,e2,rfl,hle,hx⟩:=hv
  have hlt:i.toNat<xs.length:=(List.getElem?_eq_some_iff.1 hget).1
  rcases hx with hx|⟨b,off,sz,rfl,hs,hl⟩
  ·omega
  have hcl:=yG hl i.toNat c hget
  have hsc:c.cells.length=sz:=hs c (List.mem_of_getElem? hget)
  have key: ∃c':CV,ay (Nat.beq c'.cells.length n) (k (.cv (.view c'.cells)) (ac h.take s) μ)=some r∧c'.cells.length=sz∧CL G w b (off+i.toNat*sz) c'.cells:=by
   unfold fO hZ at hop
   split at hop
   ·obtain⟨cs,hag,hop1⟩:=ab.1 hop
    obtain⟨cs',hop2,hf⟩:=jA hop1
    have:=nr hag
    injection this with this
    subst this
    exact⟨_,hop2,by simp only[CV.cells]at hsc ⊢; rw[hf.1];exact hsc,by simp only[CV.cells]at hcl ⊢; exact hf.CL hcl⟩
   ·split at hop<;>try(simp at hop;done)
    obtain⟨c',hop1,hcase,hr⟩:=Lr hop
    rcases hcase with rfl|⟨n1,n2⟩
    ·exact⟨c',hop1,hsc,hcl⟩
    ·refine⟨c',hop1,?_,?_⟩
     ·rw[gM n1]at hsc
      rw[gM n2];exact hsc
     ·rw[gM n1]at hcl
      rw[gM n2]
      simp only[CL,and_true]at hcl ⊢
      obtain⟨v,a1,a2,a3⟩:=hcl
      exact⟨v,a1,a2,hr G w v a3⟩
  obtain⟨c',hop1,hlc,hcl'⟩:=key
  obtain⟨hlen,hop2⟩:=aJ.1 hop1
  have hlen:=Nat.eq_of_beq_eq_true hlen
  have hsn:sz=n:=by omega
  subst hsn
  exact cw R hd hk hop2 ⟨_,hrunS e sz b off xs.length cap hu hn e2 h0 (by omega),by simp only[VR];exact⟨b,_,rfl,hcl'⟩⟩
 unfold eD at hop
 split at hop
 ·rename_i e hu
  obtain⟨n,hn,hop⟩:=ab.1 hop
  split at hop
  ·rename_i id off len he
   obtain⟨hr,hop⟩:=aJ.1 hop
   obtain⟨h0,hlt⟩:=fH hr
   have hv:=(a8 R h x).1
   rw[he]at hv
   simp only[LVR]at hv
   obtain⟨hid,cap,cur,e',fz,hv,_⟩:=hv
   exact dD R hd hk hop (hrunS e n _ _ len cap hu hn hv h0 hlt) (by simp only[LVR];exact⟨hid,trivial⟩) (fun b hb=>by simp[aD]at hb)
  ·rename_i xs he
   have hv:=(a8 R h x).1
   rw[he]at hv
   simp only[LVR]at hv
   exact hsl xs e n hu hn (fV hv) hop
  ·split at hop
   ·obtain⟨xs,hg,hop⟩:=ab.1 hop
    exact hsl xs e n hu hn (fS hg (a8 R h x).1) hop
   ·obtain⟨q,hg,hop⟩:=ab.1 hop
    obtain⟨hr,hop⟩:=aJ.1 hop
    obtain⟨h0,hlt⟩:=fH hr
    have hv:=cx R (Js hg)
    simp only[VR]at hv
    obtain⟨hid,cap,cur,e',fz,hv,_⟩:=hv
    exact cw R hd hk hop ⟨_,hrunS e n _ _ _ cap hu hn hv h0 hlt,by simp only[VR];exact⟨hid,trivial⟩⟩
  ·simp at hop
 ·rename_i len e hu
  obtain⟨n,hn,hop⟩:=ab.1 hop
  split at hop
  ·rename_i id off he
   obtain⟨hr,hop⟩:=aJ.1 hop
   obtain⟨h0,hlt⟩:=fH hr
   have hv:=(a8 R h x).1
   rw[he]at hv
   simp only[LVR]at hv
   exact dD R hd hk hop (hrunA e n _ _ len hu hn hv.2 h0 hlt) (by simp only[LVR];exact⟨hv.1,trivial⟩) (fun b hb=>by simp[aD]at hb)
  ·split at hop
   ·obtain⟨cs,hg,hop⟩:=ab.1 hop
    obtain⟨hr,hop⟩:=aJ.1 hop
    obtain⟨hle,hop⟩:=aJ.1 hop
    obtain⟨h0,hlt⟩:=fH hr
    have hv:=cx R (pK hg)
    simp only[VR]at hv
    obtain⟨b,off,e2,hcl⟩:=hv
    exact cw R hd hk hop ⟨_,hrunA e n b off len hu hn e2 h0 hlt,by simp only[VR];exact⟨b,_,rfl,nW _ hcl⟩⟩
   ·obtain⟨q,hg,hop⟩:=ab.1 hop
    obtain⟨hr,hop⟩:=aJ.1 hop
    obtain⟨h0,hlt⟩:=fH hr
    have hv:=cx R (nt hg)
    simp only[VR]at hv
    exact cw R hd hk hop ⟨_,hrunA e n _ _ len hu hn hv.2 h0 hlt,by simp only[VR];exact⟨hv.1,trivial⟩⟩
  ·simp at hop
 ·simp at hop
end
end Go.Abs
set_option linter.unusedVariables false
set_option linter.unusedSimpArgs false
namespace Go.Abs
open Go
section
variable {P:Program}{ρ:Rho}{α:Type}{L:Nat}{G:Gh}{w:World}{s:S}{μ:Mu}{a:Act}{o:Oper}{h:OpHint}{k:LV→S→Mu→Option α}{p:CV→S→Mu→Option α}{r:α}{K:Act→World→Prop}{Q:Exit→Act→World→Prop}
theorem N3 {t:TypeId}{x ix:Operand}(ho:o.op= .index t x ix)(R:Rel G L s μ a.tmps w)(hd: ∀d,o.dst=some d→d<a.tmps.size)(hk:KOK L G w s μ a o.dst k r K)
  (hop:opt (lc (evA h s.fr ix)) (fun i=>jG P t (evA h s.fr x) i fun v=>k v (ac h.take s) μ)=some r):o.wp P a w K Q:=by
 obtain⟨i,h1,hop⟩:=ab.1 hop
 obtain⟨kd,e1⟩:=nk h1
 have hi:=gN R e1
 unfold jG at hop
 split at hop
 ·rename_i hu
  obtain⟨l,h2,hop⟩:=ab.1 hop
  obtain⟨b,h3,hop⟩:=ab.1 hop
  have hv:=cx R (fi h2)
  simp only[VR]at hv
  refine cw R hd hk hop ⟨.int .u8 (b.toNat:Int),?_,by simp[VR]⟩
  simp only[execOp,ho,hv,hi]
  exact cK (KR hu h3)
 ·rename_i len e hu
  split at hop<;>try(simp at hop;done)
  obtain⟨cs,h2,hop⟩:=ab.1 hop
  obtain⟨n,hn,hop⟩:=ab.1 hop
  obtain⟨hr,hop⟩:=aJ.1 hop
  obtain⟨c,hc,hop⟩:=ab.1 hop
  obtain⟨c',hop,hr'⟩:=m0 hop
  obtain⟨h0,hlt⟩:=fH hr
  have hv:=cx R (nr h2)
  simp only[VR]at hv
  obtain⟨vs,e2,hl⟩:=hv
  obtain⟨u,h3,h4⟩:=rW (P:=P) (fa hc).1 (fa hc).2 hl
  refine cw R hd hk hop ⟨u,?_,hr' G w 0 0 u (by simpa[LVR]using h4)⟩
  simp only[execOp,ho,e2,hi]
  refine cK ?_
  simp only[Instr.index,asIntOf,Sem.run_bind,Sem.run_pure,Result.andThen_ok,run_underlying hu,if_pos (And.intro h0 hlt),dE hn,h3]
 ·simp at hop
theorem N5 {t:TypeId}{x:Operand}{lo hi:Option Operand}(ho:o.op= .slice t x lo hi none)(R:Rel G L s μ a.tmps w)(hd: ∀d,o.dst=some d→d<a.tmps.size)(hk:KOK L G w s μ a o.dst k r K)
  (hop:gm P t (evA h s.fr x) lo hi (evA h s.fr) (fun v=>k v (ac h.take s) μ)=some r):o.wp P a w K Q:=by
 have hrun: ∀{cv:Value},(Instr.sliceAt t (a.eval x) (lo.map a.eval) (hi.map a.eval) none).run P w= .ok cv w→(execOp a.eval o).run P w= .ok (.value cv) w:=by
  intro cv h
  simp only[execOp,ho]
  exact cK (by simpa using h)
 unfold gm at hop
 split at hop
 ·rename_i hu
  obtain⟨l,h2,hop⟩:=ab.1 hop
  obtain⟨m,hm,hop⟩:=j5 R hop
  obtain⟨n,hn,hop⟩:=j5 R hop
  obtain⟨q,hq,hop⟩:=ab.1 hop
  have hv:=cx R (fi h2)
  simp only[VR]at hv
  refine cw R hd hk hop ⟨.string ⟨⟨q⟩⟩,hrun ?_,by simp[VR]⟩
  rw[hv]
  exact Bu hu hq hm hn
 ·rename_i e hu
  obtain⟨sz,hsz,hop⟩:=ab.1 hop
  have hsl: ∀xs,VR G w (.sl xs) (a.eval x)→(db (evA h s.fr) lo 0 fun m=>db (evA h s.fr) hi (xs.length:Int) fun n=>ay (oJ sz m xs) (opt (di xs m n) fun q=>k (.cv (.sl q)) (ac h.take s) μ))=some r→o.wp P a w K Q:=by
   intro xs hv hop
   obtain⟨m,hm,hop⟩:=j5 R hop
   obtain⟨n,hn,hop⟩:=j5 R hop
   obtain⟨hg,hop⟩:=aJ.1 hop
   obtain⟨q,hq,hop⟩:=ab.1 hop
   obtain⟨u,h3,h4⟩:=Df hu hsz hv hq hg hm hn
   exact cw R hd hk hop ⟨u,hrun h3,h4⟩
  split at hop
  ·obtain⟨xs,h2,hop⟩:=ab.1 hop
   exact hsl xs (fS h2 (a8 R h x).1) hop
  ·rename_i xs he
   have hv:=(a8 R h x).1
   rw[he]at hv
   simp only[LVR]at hv
   exact hsl xs (fV hv) hop
  ·rename_i id off len he
   obtain⟨m,hm,hop1⟩:=j5 R hop
   obtain⟨n,hn,hop2⟩:=j5 R hop1
   obtain⟨hg,hop3⟩:=aJ.1 hop2
   clear hop hop1 hop2
   simp only[Bool.and_eq_true,decide_eq_true_eq]at hg
   obtain⟨⟨hm0,h0⟩,hle⟩:=hg
   rw[hm0]at hm
   have hv:=(a8 R h x).1
   rw[he]at hv
   simp only[LVR]at hv
   obtain⟨hid,cap,cur,e',fz,hv,hlc,hcm,hb,hsize⟩:=hv
   have hbs:=jX (P:=P) (w:=w) (isS:=true) hlc (Int.le_refl 0) h0 hle hm hn
   refine dD R hd hk hop3 (cv:= .slice (some ⟨G.β L id,off,none⟩) n.toNat cap) (hrun ?_) ?_ (fun b hb=>by simp[aD]at hb)
   ·rw[hv]
    simp only[Instr.sliceAt,Sem.run_bind,run_underlying hu,Result.andThen_ok,Instr.slice,hbs,dE hsz,Sem.run_pure]
    by_cases hc:cap=0
    ·simp[hc]
    ·simp[hc,eS]
   ·simp only[LVR]
    exact⟨hid,cap,cur,e',fz,rfl,by omega,hcm,hb,hsize⟩
  ·simp at hop
 ·simp at hop
theorem QT {x:Operand}{t:TypeId}{c:Call}(ho:o.op= .call c)(hc:c.callee= .builtin .len)(hx:c.args.toList=[x])(ht:c.argTypes.toList=[t])(R:Rel G L s μ a.tmps w)(hd: ∀d,o.dst=some d→d<a.tmps.size)(hk:KOK L G w s μ a o.dst k r K)
  (hop:opt (F2 P t (evA h s.fr x)) (fun n=>k (.cv (.v (.int .i64 n))) (ac h.take s) μ)=some r):o.wp P a w K Q:=by
 obtain⟨n,h1,h2⟩:=ab.1 hop
 have hx':c.args= #[x]:=by cases ha:c.args;simp_all
 have ht':c.argTypes= #[t]:=by cases ha:c.argTypes;simp_all
 refine cw R hd hk h2 ⟨.int .i64 n,?_,by simp[VR]⟩
 have:=LL (ty:=o.type) h1 (a8 R h x).1
 simp only[execOp,ho,resolve,hc,hx',ht',Sem.run_bind,Sem.run_pure,Result.andThen_ok,invoke,builtin,List.map_toArray,List.map_cons,List.map_nil]
 rw[this];rfl
theorem Ql (x y:Int):(if y>x then y else x)=max x y:=by
 rw[Int.max_def];split<;>split<;>omega
theorem Qm (x y:Int):(if y<x then y else x)=min x y:=by
 rw[Int.min_def];split<;>split<;>omega
theorem QU {x y:Operand}{c:Call}(ho:o.op= .call c)(hc:c.callee= .builtin .max)(hx:c.args.toList=[x,y])(R:Rel G L s μ a.tmps w)(hd: ∀d,o.dst=some d→d<a.tmps.size)(hk:KOK L G w s μ a o.dst k r K)
  (hop:opt (aI .i64 (evA h s.fr x)) (fun m=>opt (aI .i64 (evA h s.fr y)) fun n=>k (.cv (.v (.int .i64 (max m n)))) (ac h.take s) μ)=some r):o.wp P a w K Q:=by
 obtain⟨m,h1,hop⟩:=ab.1 hop
 obtain⟨n,h2,hop⟩:=ab.1 hop
 have hx':c.args= #[x,y]:=by cases ha:c.args;simp_all
 refine cw R hd hk hop ⟨.int .i64 (max m n),?_,by simp[VR]⟩
 simp only[execOp,ho,resolve,hc,hx',Sem.run_bind,Sem.run_pure,Result.andThen_ok,invoke,builtin,List.map_toArray,List.map_cons,List.map_nil,gN R (gO h1),gN R (gO h2)]
 simp only[Builtin.max_,List.foldlM_cons,List.foldlM_nil,Builtin.max2,Sem.run_bind,Sem.run_pure,Result.andThen_ok,Ql]
theorem QV {x y:Operand}{c:Call}(ho:o.op= .call c)(hc:c.callee= .builtin .min)(hx:c.args.toList=[x,y])(R:Rel G L s μ a.tmps w)(hd: ∀d,o.dst=some d→d<a.tmps.size)(hk:KOK L G w s μ a o.dst k r K)
  (hop:opt (aI .i64 (evA h s.fr x)) (fun m=>opt (aI .i64 (evA h s.fr y)) fun n=>k (.cv (.v (.int .i64 (min m n)))) (ac h.take s) μ)=some r):o.wp P a w K Q:=by
 obtain⟨m,h1,hop⟩:=ab.1 hop
 obtain⟨n,h2,hop⟩:=ab.1 hop
 have hx':c.args= #[x,y]:=by cases ha:c.args;simp_all
 refine cw R hd hk hop ⟨.int .i64 (min m n),?_,by simp[VR]⟩
 simp only[execOp,ho,resolve,hc,hx',Sem.run_bind,Sem.run_pure,Result.andThen_ok,invoke,builtin,List.map_toArray,List.map_cons,List.map_nil,gN R (gO h1),gN R (gO h2)]
 simp only[Builtin.min_,List.foldlM_cons,List.foldlM_nil,Builtin.min2,Sem.run_bind,Sem.run_pure,Result.andThen_ok,Qm]
theorem j6: ∀{xs:List CV} {l:List UInt8},bi xs=some l→ ∃ns:List Int,xs=ns.map (fun n=> .v (.int .u8 n))∧l=ns.map fun n=>UInt8.ofNat n.toNat
 |[],l,h=>by simp only[bi,Option.some.injEq]at h;subst h;exact⟨[],rfl,rfl⟩
 |c::r,l,h=>by
  unfold bi at h
  split at h<;>try(simp at h;done)
  ·rename_i e;cases e
  ·rename_i n r' e
   injection e with e1 e2
   subst e1;subst e2
   split at h<;>try(simp at h;done)
   obtain⟨l',h1,h2⟩:=ab.1 h
   simp only[Option.some.injEq]at h2
   subst h2
   obtain⟨ns,h3,h4⟩:=j6 h1
   exact⟨n::ns,by rw[h3];rfl,by rw[h4];rfl⟩
theorem FO (ns:List Int): ∀(acc:List UInt8),ns.foldl (fun r n=>r.push (UInt8.ofNat n.toNat)) (⟨⟨acc⟩⟩:ByteArray)=⟨⟨acc++ns.map fun n=>UInt8.ofNat n.toNat⟩⟩:=by
 induction ns with
 |nil=>intro acc;simp
 |cons n ns ih=>
  intro acc
  simp only[List.foldl_cons,List.map_cons]
  have:(⟨⟨acc⟩⟩:ByteArray).push (UInt8.ofNat n.toNat)=⟨⟨acc++[UInt8.ofNat n.toNat]⟩⟩:=by
   apply ByteArray.ext
   simp[ByteArray.push]
  rw[this,ih]
  simp
theorem lJ {A:Addr}{len cap:Nat}{ns:List Int}(hl:len=ns.length)(hc: ∀(j:Nat) n,ns[j]? =some n→w.cell? (A.add j)=some (.int .u8 n)):
  (Conv.bytesToString (.slice (some A) len cap)).run P w= .ok (.string ⟨⟨ns.map fun n=>UInt8.ofNat n.toNat⟩⟩) w:=by
 have h1:(loadCells A len).run P w= .ok (ns.map (Value.int .u8)).toArray w:=by
  have := run_loadCells_list (P := P) w A (ns.map (Value.int .u8)) (fun j v hv => by
   simp only[List.getElem?_map,Option.map_eq_some_iff]at hv
   obtain⟨n,hn,rfl⟩:=hv
   exact hc j n hn)
  rw[hl]
  simpa using this
 rw[run_bytesToString w A len cap ns h1]
 have:=FO ns []
 simp only[List.nil_append]at this
 rw[←this]
 rfl
theorem Ir {src dst:TypeId}{x:Operand}(ho:o.op= .convert src dst x)(R:Rel G L s μ a.tmps w)(hd: ∀d,o.dst=some d→d<a.tmps.size)(hk:KOK L G w s μ a o.dst k r K)
  (hop:cV P h src dst (evA h s.fr x) (ac h.take s) μ k=some r)
  (hsb : ∀ e l, P.underlying dst = some (.slice e) → P.underlying e = some (.int .u8) → P.underlying src = some .string → evA h s.fr x = LV.str l → bn l.length = true →
   (match h.arr with
    |true=>k (.lsl (ac h.take s).lam.length 0 l.length) {ac h.take s with lam:=(ac h.take s).lam++[.arr 1 (l.map fun b=> .v (.int .u8 (b.toNat:Int)))]} μ
    |false=>k (.cv (.sl (l.map fun b=> .v (.int .u8 (b.toNat:Int))))) (ac h.take s) μ)=some r→o.wp P a w K Q):o.wp P a w K Q:=by
 have hl:=aT h.take s
 have hrun: ∀{cv:Value},(convert src dst (a.eval x)).run P w= .ok cv w→(execOp a.eval o).run P w= .ok (.value cv) w:=by
  intro cv h
  simp only[execOp,ho]
  exact cK h
 unfold cV at hop
 split at hop
 ·rename_i ik hu
  split at hop<;>try(simp at hop;done)
  rename_i ik' hu'
  obtain⟨n,h1,hop⟩:=ab.1 hop
  obtain⟨kd,e1⟩:=nk h1
  refine cw R hd hk hop ⟨.int ik (ik.wrap n),hrun ?_,by simp[VR]⟩
  rw[gN R e1]
  simp[convert,run_underlying hu,run_underlying hu',Conv.intToInt]
 ·rename_i hu
  split at hop
  ·rename_i hu'
   obtain⟨l,h1,hop⟩:=ab.1 hop
   have hv:=cx R (fi h1)
   simp only[VR]at hv
   refine cw R hd hk hop ⟨.string ⟨⟨l⟩⟩,hrun ?_,by simp[VR]⟩
   rw[hv]
   simp[convert,run_underlying hu,run_underlying hu']
  ·rename_i e hu'
   split at hop<;>try(simp at hop;done)
   rename_i hue
   have hconv: ∀A len cap,a.eval x= .slice A len cap→convert src dst (a.eval x)=convert src dst (.slice A len cap):=fun A len cap e=>by rw[e]
   have hcv: ∀A len cap,(convert src dst (.slice A len cap)).run P w=(Conv.bytesToString (.slice A len cap)).run P w:=by
    intro A len cap
    simp[convert,run_underlying hu,run_underlying hu',run_underlying hue]
   split at hop
   ·rename_i id off len he
    split at hop<;>try(simp at hop;done)
    rename_i sz cs hob
    obtain⟨hle,hop⟩:=aJ.1 hop
    have hle:=Nat.le_of_ble_eq_true hle
    obtain⟨l,hb,hop⟩:=ab.1 hop
    obtain⟨ns,h1,h2⟩:=j6 hb
    have hv:=(a8 R h x).1
    rw[he]at hv
    simp only[LVR]at hv
    obtain⟨hid,cap,cur,e',fz,hv,hlc,hcm,hbk,hsize⟩:=hv
    have hobr:=R.lam id
    rw[hl.1]at hob
    rw[hob]at hobr
    simp only[ObR]at hobr
    obtain⟨_,cur2,e2,fz2,hbk2,_,_,hsz,hr⟩:=hobr
    have hlen:ns.length=len:=by
     have:=congrArg List.length h1
     simp only[List.length_take,List.length_drop,List.length_map]at this
     omega
    refine cw R hd hk hop ⟨.string ⟨⟨l⟩⟩,hrun ?_,by simp[VR]⟩
    rw[hv,hcv,h2]
    refine lJ hlen.symm fun j n hn=> ?_
    have hj:j<len:=by have:=(List.getElem?_eq_some_iff.1 hn).1;omega
    rw[eS,cell_of_heap hbk2 (by omega)]
    have hx:cs[off+j]? =some (.v (.int .u8 n)):=by
     have e3:((cs.drop off).take len)[j]? =some (.v (.int .u8 n)):=by rw[h1];simp[hn]
     rw[List.getElem?_take_of_lt hj,List.getElem?_drop]at e3
     exact e3
    have:=hr (off+j) _ hx
    simp only[VR]at this
    rw[this]
   ·obtain⟨xs,hg,hop⟩:=ab.1 hop
    obtain⟨l,hb,hop⟩:=ab.1 hop
    obtain⟨ns,rfl,rfl⟩:=j6 hb
    have hv:=fS hg (a8 R h x).1
    simp only[VR]at hv
    obtain⟨A,len,cap,e1,e2,_,hx⟩:=hv
    have hlen:len=ns.length:=by simpa using e2
    refine cw R hd hk hop ⟨.string ⟨⟨ns.map fun n=>UInt8.ofNat n.toNat⟩⟩,hrun ?_,by simp[VR]⟩
    rw[e1,hcv]
    cases A with
    |none=>
     have:ns=[]:=by
      rcases hx with hx|⟨b,off,sz,hA,_⟩
      ·exact List.eq_nil_of_length_eq_zero (by omega)
      ·cases hA
     subst this
     rfl
    |some A=>
     refine lJ hlen fun j n hn=> ?_
     have hj:j<ns.length:=(List.getElem?_eq_some_iff.1 hn).1
     rcases hx with hx|⟨b,off,sz,hA,hs,hel⟩
     ·omega
     ·injection hA with hA
      subst hA
      have hcl:=yG hel j (.v (.int .u8 n)) (by simp[hn])
      have hsz:sz=1:=by
       have:=hs (.v (.int .u8 n)) (by simp;exact List.mem_of_getElem? hn)
       simpa[CV.cells]using this.symm
      subst hsz
      simp only[CV.cells,CL,and_true]at hcl
      obtain⟨v,h3,_,h4⟩:=hcl
      simp only[VR]at h4
      subst h4
      rw[eS]
      simpa using h3
  ·simp at hop
 ·rename_i e hu
  split at hop<;>try(simp at hop;done)
  rename_i hu'
  split at hop<;>try(simp at hop;done)
  rename_i hue
  obtain⟨l,h1,hop⟩:=ab.1 hop
  obtain⟨hsm,hop⟩:=aJ.1 hop
  exact hsb e l hu hue hu' (fi h1) hsm hop
 ·simp at hop
end
end Go.Abs
set_option linter.unusedVariables false
set_option linter.unusedSimpArgs false
namespace Go.Abs
open Go
theorem nI (cur:Array Value):dX cur (0,0):=fun j _ h=>by simp at h
section
variable {P:Program}{ρ:Rho}{α:Type}{L:Nat}{G:Gh}{w:World}{s:S}{μ:Mu}{a:Act}{o:Oper}{h:OpHint}{k:LV→S→Mu→Option α}{p:CV→S→Mu→Option α}{r:α}{K:Act→World→Prop}{Q:Exit→Act→World→Prop}
theorem Bq {G:Gh}{L m b kk:Nat}{pu:Bool}: ∀l,l<L→(∀i,(G.setL L m b kk pu).β l i=G.β l i∧(G.setL L m b kk pu).sz l i=G.sz l i)∧(G.setL L m b kk pu).n l=G.n l:=by
 intro l hl
 have: ¬l=L:=by omega
 simp[Gh.setL,this]
theorem iV {G0:Gh}{w0:World}{T0:Nat→Prop}(R:Rel G L s μ a.tmps w)(E:Ext L T0 G0 w0 G w (ax G w s μ a.tmps))(hd: ∀d,o.dst=some d→d<a.tmps.size)
  {cur:Array Value} {e:TypeId} {ob:Ob} {kk:Nat} {fz:Nat×Nat} (hfz:dX cur fz)
  (hob : (∃ cs, ob = .cells cs ∧ cs.length ≤ cur.size ∧ ∀ j x, cs[j]? = some x → LVR G w L s.lam.length x (cur.getD j undef)) ∨
   (∃cs,ob= .arr kk cs∧cs.length≤cur.size∧ ∀j x,cs[j]? =some x→VR G w x (cur.getD j undef)))
  (hown: ∀cs j b,ob= .cells cs→cC cs cur j b→((∀l,¬aw G w s.fr a.tmps (μ++[s.lam]) l b)∧(∀lev i,aK (aC (μ++[s.lam]) lev i)→G.β lev i≠b)∧ ∀j',cC cs cur j' b→j'=j)∧(T0 b∨w0.heap.size≤b))
  {v:LV} {cv:Value} (hv: ∀G1 w1,G1=G.setL L s.lam.length w.heap.size kk s.pushed→w1=w.alloc (.cells cur e fz)→LVR G1 w1 L (s.lam.length+1) v cv) (hno: ∀b,¬aD v cv b):
  ∃G1,Rel G1 L ({s with lam:=s.lam++[ob]}.put o.dst v) μ (a.put o.dst cv).tmps (w.alloc (.cells cur e fz))∧
   Ext L T0 G0 w0 G1 (w.alloc (.cells cur e fz)) (ax G1 (w.alloc (.cells cur e fz)) ({s with lam:=s.lam++[ob]}.put o.dst v) μ (a.put o.dst cv).tmps):=by
 obtain⟨R1,hle,hT,_⟩:=R.newLocal hfz (e:=e) hob fun cs j b h1 h2=>(hown cs j b h1 h2).1
 have E1:Ext L T0 G0 w0 (G.setL L s.lam.length w.heap.size kk s.pushed) (w.alloc (.cells cur e fz)) (ax (G.setL L s.lam.length w.heap.size kk s.pushed) (w.alloc (.cells cur e fz)) {s with lam:=s.lam++[ob]} μ a.tmps):=by
  refine⟨E.le.trans hle,E.os,E.tape,E.output,Nat.le_trans E.size (by simp),fun b hb hn=> ?_,fun b hb=> ?_,fun l hl=> ?_⟩
  ·obtain⟨h1,h2⟩:=E.keep b hb hn
   have hlt:b<w.heap.size:=Nat.lt_of_lt_of_le hb E.size
   refine⟨(heap_alloc_old w _ hlt).trans h1,?_⟩
   rw[←h2]
   have:b≠w.heap.size:=by omega
   simp[Gh.setL,this]
  ·rcases hT b hb with h1|rfl|⟨cs,j,h1,h2⟩
   ·exact E.grow b h1
   ·exact .inr E.size
   ·exact(hown cs j b h1 h2).2
  ·obtain⟨h1,h2⟩:=E.lev l hl
   obtain⟨h3,h4⟩:=Bq (G:=G) (m:=s.lam.length) (b:=w.heap.size) (kk:=kk) (pu:=s.pushed) l hl
   exact⟨fun i=>⟨(h3 i).1.trans (h1 i).1,(h3 i).2.trans (h1 i).2⟩,h4.trans h2⟩
 obtain⟨R2,E2⟩:=cN (dst:=o.dst) (v:=v) (cv:=cv) R1 E1 (by simpa using hv _ _ rfl rfl) (fun b hb=>absurd hb (hno b)) hd
 exact⟨_,R2,E2⟩
theorem Ek {cur:Array Value}{e:TypeId}{fz:Nat×Nat}{kk:Nat}: ∀G1 w1,G1=G.setL L s.lam.length w.heap.size kk s.pushed→w1=w.alloc (.cells cur e fz)→
  LVR G1 w1 L (s.lam.length+1) (.loc s.lam.length 0) (.pointer (some ⟨w.heap.size,0,none⟩)):=by
 intro G1 w1 hG hw
 subst hG
 simp only[LVR]
 exact⟨by omega,by simp[Gh.setL]⟩
theorem Fq {b:Bool}{n:Nat}{cur:Array Value}{e:TypeId}{fz:Nat×Nat}{kk:Nat}(hn:cur.size=n): ∀G1 w1,G1=G.setL L s.lam.length w.heap.size kk s.pushed→w1=w.alloc (.cells cur e fz)→
  LVR G1 w1 L (s.lam.length+1) (q7 b s.lam.length e n) (.pointer (some ⟨w.heap.size,0,none⟩)):=by
 intro G1 w1 hG hw
 cases b with
 |false=>exact Ek G1 w1 hG hw
 |true=>
  subst hG
  subst hw
  simp only[LVR,q7]
  have e1:(G.setL L s.lam.length w.heap.size kk s.pushed).β L s.lam.length=w.heap.size:=by simp[Gh.setL]
  exact⟨by omega,by rw[e1],cur,fz,by rw[e1];exact Array.getElem?_push_size,hn⟩
theorem xy {cs:List CV}{cur:Array Value}(hl:VRL G w cs cur.toList){nl:Nat}:(cs.map LV.cv).length≤cur.size∧ ∀j x,(cs.map LV.cv)[j]? =some x→LVR G w L nl x (cur.getD j undef):=by
 obtain⟨e,hg⟩:=dQ hl
 refine⟨by simp at e ⊢; omega,fun j x hx=> ?_⟩
 simp only[List.getElem?_map,Option.map_eq_some_iff]at hx
 obtain⟨c,hc,rfl⟩:=hx
 obtain⟨v,hv,hr⟩:=hg j c hc
 simp only[LVR]
 have:cur.getD j undef=v:=by
  rw[Array.getElem?_toList]at hv
  simp[Array.getD_eq_getD_getElem?,hv]
 rw[this];exact hr
theorem sT {cs:List CV}{cur:Array Value}{j b:Nat}: ¬cC (cs.map LV.cv) cur j b:=by
 rintro⟨x,hx,ho⟩
 simp only[List.getElem?_map,Option.map_eq_some_iff]at hx
 obtain⟨c,_,rfl⟩:=hx
 simp[aD]at ho
theorem NY {e:TypeId}(ho:o.op= .alloc e)(R:Rel G L s μ a.tmps w)(hd: ∀d,o.dst=some d→d<a.tmps.size)(hk:KOK L G w s μ a o.dst k r K)
  (hop:opt (zeroCells P e) (fun cs=>k (q7 h.cell (ac h.take s).lam.length e cs.length) {ac h.take s with lam:=(ac h.take s).lam++[.cells (cs.map .cv)]} μ)=some r):o.wp P a w K Q:=by
 obtain⟨cs,h1,hop⟩:=ab.1 hop
 obtain⟨R1,E1,_⟩:=dx R h.take
 obtain⟨z,i,hi,hz,hrun,hl⟩:=iY (P:=P) (G:=G) (w:=w) h1
 obtain⟨G1,R2,E2⟩:=iV (o:=o) (kk:=0) (e:=e) R1 E1 hd (nI z.cells) (ob:= .cells (cs.map .cv)) (.inl ⟨_,rfl,xy hl⟩)
  (fun cs' j b he hc=>by injection he with he;subst he;exact absurd hc sT) (Fq (by have:=VRL_len hl;simpa using this.symm)) (fun b hb=>by cases h.cell<;>simp[q7,aD]at hb)
 refine dw ?_ (hk _ _ μ _ _ G1 hop R2 E2)
 simp only[execOp,ho]
 refine cK ?_
 simp[Instr.alloc,hrun,newVar,newRow]
theorem gI {x:LV}{v:Value}{nl:Nat}{cs:List LV}(h:x.cells=some cs)(hv:LVR G w L nl x v):
  cs.length=v.cells.size∧(∀j y,cs[j]? =some y→LVR G w L nl y (v.cells.getD j undef))∧(∀u∈v.cells.toList,u.oneCell'=true)∧
  (∀j b,cC cs v.cells j b→j=0∧aD x v b):=by
 have one: ∀(y:LV),y=x→cs=[y]→v.oneCell'=true→cs.length=v.cells.size∧(∀j y,cs[j]? =some y→LVR G w L nl y (v.cells.getD j undef))∧(∀u∈v.cells.toList,u.oneCell'=true)∧
  (∀j b,cC cs v.cells j b→j=0∧aD x v b):=by
  rintro y rfl rfl h1
  rw[yc h1]
  refine⟨rfl,fun j z hz=> ?_,by simpa using h1,?_⟩
  ·cases j with
   |zero=>simp only[List.getElem?_cons_zero,Option.some.injEq]at hz;subst hz;exact hv
   |succ j=>simp at hz
  ·rintro j b ⟨z,hz,ho⟩
   cases j with
   |zero=>simp only[List.getElem?_cons_zero,Option.some.injEq]at hz;subst hz;exact⟨rfl,ho⟩
   |succ j=>simp at hz
 unfold LV.cells at h
 split at h
 ·split at h<;>simp only[Option.some.injEq,reduceCtorEq]at h
  rename_i hs
  subst h
  simp only[LVR]at hv
  obtain⟨hl,h1⟩:=iP hs hv
  refine⟨by have:=VRL_len hl;simpa using this,(xy hl).2,h1,fun j b hc=>absurd hc sT⟩
 ·simp at h
 ·simp only[Option.some.injEq]at h
  rename_i n1 n2
  refine one x rfl h.symm ?_
  cases x<;>simp only[LVR]at hv
  ·exact absurd rfl (n1 _)
  ·rcases hv with⟨_,rfl⟩|⟨_,_,_,_,_,rfl,_⟩<;>rfl
  ·obtain⟨_,rfl⟩:=hv;rfl
  ·obtain⟨_,_,_,_,_,rfl,_⟩:=hv;rfl
  ·obtain⟨_,rfl,_⟩:=hv;rfl
  ·exact absurd rfl (n2 _)
  ·obtain⟨_,rfl⟩:=hv;rfl
  ·obtain⟨_,rfl,_⟩:=hv;rfl
theorem QS {e:TypeId}{x:Operand}(ho:o.op= .box e x)(R:Rel G L s μ a.tmps w)(hd: ∀d,o.dst=some d→d<a.tmps.size)(hk:KOK L G w s μ a o.dst k r K)
  (hop:opt (evA h s.fr x).cells (fun cs=>k (.loc (ac h.take s).lam.length 0) {ac h.take s with lam:=(ac h.take s).lam++[.cells cs]} μ)=some r):o.wp P a w K Q:=by
 obtain⟨cs,h1,hop⟩:=ab.1 hop
 obtain⟨R1,E1,hO⟩:=dx R h.take
 have hl:=aT h.take s
 obtain⟨hv,hown⟩:=a8 R h x
 obtain⟨h2,h3,h4,h5⟩:=gI h1 hv
 obtain⟨G1,R2,E2⟩:=iV (o:=o) (kk:=0) (e:=e) R1 E1 hd (nI (a.eval x).cells) (ob:= .cells cs) (.inl ⟨_,rfl,by omega,by rw[hl.1];exact h3⟩)
  (fun cs' j b he hc => by
   injection he with he
   subst he
   obtain⟨hj,ho'⟩:=h5 j b hc
   obtain⟨t,ht,hot⟩:=hown b ho'
   refine⟨⟨fun l hl'=> ?_,fun lev i hlv=> ?_,fun j' hc'=>by rw[(h5 j' b hc').1,hj]⟩,.inl (.inl ⟨.fr t,hot⟩)⟩
   ·obtain⟨a1,a2⟩:=hO l b hl'
    exact a1 t ht (R.own l (.fr t) b a2 hot)
   ·rw[hl.1]at hlv
    exact R.apart (.fr t) b lev i hot hlv) Ek (fun b hb=>by simp[aD]at hb)
 refine dw ?_ (hk _ _ μ _ _ G1 hop R2 E2)
 simp only[execOp,ho]
 refine cK ?_
 simp[Instr.box,newVar,newRow]
end
end Go.Abs
set_option linter.unusedVariables false
set_option linter.unusedSimpArgs false
namespace Go.Abs
open Go
section
variable {P:Program}{ρ:Rho}{α:Type}{L:Nat}{G:Gh}{w:World}{s:S}{μ:Mu}{a:Act}{o:Oper}{h:OpHint}{k:LV→S→Mu→Option α}{p:CV→S→Mu→Option α}{r:α}{K:Act→World→Prop}{Q:Exit→Act→World→Prop}
theorem lH {G0:Gh}{w0:World}{T0:Nat→Prop}(R:Rel G L s μ a.tmps w)(E:Ext L T0 G0 w0 G w (ax G w s μ a.tmps))(hd: ∀d,o.dst=some d→d<a.tmps.size)
  {ob:Obj} {n:Nat} {v:LV} {cv:Value} (hv:Le G w (G.setO w.heap.size n) (w.alloc ob)→LVR (G.setO w.heap.size n) (w.alloc ob) L s.lam.length v cv) (ho: ∀b,aD v cv b→b=w.heap.size):
  ∃G1,Rel G1 L (s.put o.dst v) μ (a.put o.dst cv).tmps (w.alloc ob)∧Ext L T0 G0 w0 G1 (w.alloc ob) (ax G1 (w.alloc ob) (s.put o.dst v) μ (a.put o.dst cv).tmps):=by
 obtain⟨R1,hO⟩:=R.alloc ob n
 have hT: ∀b,ax (G.setO w.heap.size n) (w.alloc ob) s μ a.tmps b→ax G w s μ a.tmps b:=by
  intro b hb
  rcases hb with⟨l,hb⟩|hb
  ·exact .inl ⟨l,hO l b hb⟩
  ·exact .inr hb
 have E1:Ext L (ax G w s μ a.tmps) G w (G.setO w.heap.size n) (w.alloc ob) (ax (G.setO w.heap.size n) (w.alloc ob) s μ a.tmps):=Ext.alloc ob n fun b hb=> .inl (hT b hb)
 obtain ⟨R2, E2⟩ := cN (dst := o.dst) (v := v) (cv := cv) R1 (E.trans E1) (hv (oZ ob n)) (fun b hb => by
  have hb':=ho b hb
  subst hb'
  refine⟨fun l hl=> ?_,fun lev i hl e=> ?_,.inr E.size⟩
  ·have:=R.touch_lt (.inl ⟨l,hO l _ hl⟩)
   omega
  ·have:=R.touch_lt (.inr ⟨lev,i,hl,e⟩)
   omega) hd
 exact⟨_,R2,E2⟩
theorem rQ {α:Type}: ∀(l pre mid post:List α),mid.length=l.length→cP (pre++mid++post) pre.length l=pre++l++post
 |[],pre,mid,post,h=>by
  have:mid=[]:=List.eq_nil_of_length_eq_zero (by simpa using h)
  subst this;rfl
 |x::l,pre,mid,post,h=>by
  cases mid with
  |nil=>simp at h
  |cons m mid=>
   simp only[cP]
   have e:(pre++m::mid++post).set pre.length x=(pre++[x])++mid++post:=by simp
   rw[e]
   have:=rQ l (pre++[x]) mid post (by simpa using h)
   simp only[List.length_append,List.length_cons,List.length_nil]at this
   rw[this];simp
theorem xU {sz:Nat}: ∀{ps:List (Nat×CV)} {n:Nat} {xs:List CV},uI sz n ps=some xs→ ∀pre:List CV,pre.length=n*sz→
  lU (fun i=>some (i*sz,sz)) (pre++List.replicate (xs.length*sz) .undef) ps=some (pre++xs.flatMap CV.cells)∧ ∀x∈xs,x.cells.length=sz
 |[],n,xs,h,pre,hp=>by simp only[uI,Option.some.injEq]at h;subst h;simp[lU]
 |(i,c)::ps,n,xs,h,pre,hp=>by
  simp only[uI]at h
  split at h<;>try(simp at h;done)
  rename_i hc
  simp only[Bool.and_eq_true]at hc
  have hi:=Nat.eq_of_beq_eq_true hc.1
  have hl:=Nat.eq_of_beq_eq_true hc.2
  obtain⟨ys,h1,h2⟩:=ab.1 h
  simp only[Option.some.injEq]at h2
  subst h2
  subst hi
  obtain⟨ih1,ih2⟩:=xU h1 (pre++c.cells) (by rw[List.length_append,hp,hl,Nat.add_mul];omega)
  refine⟨?_,fun x hx=> ?_⟩
  ·simp only[lU]
   have hlen:(pre++List.replicate ((c::ys).length*sz) CV.undef).length=i*sz+(ys.length+1)*sz:=by simp[hp]
   have hle:Nat.ble (i*sz+sz) (pre++List.replicate ((c::ys).length*sz) CV.undef).length=true:=by
    rw[hlen];exact Nat.ble_eq_true_of_le (by rw[Nat.add_mul ys.length];omega)
   have hb:(Nat.beq c.cells.length sz&&Nat.ble (i*sz+sz) (pre++List.replicate ((c::ys).length*sz) CV.undef).length)=true:=by
    rw[hle,hl];simp[Nat.beq_refl]
   rw[hb]
   have e:pre++List.replicate ((c::ys).length*sz) CV.undef=pre++List.replicate sz CV.undef++List.replicate (ys.length*sz) CV.undef:=by
    rw[List.append_assoc,List.replicate_append_replicate]
    congr 2
    simp only[List.length_cons,Nat.add_mul];omega
   have:=rQ c.cells pre (List.replicate sz CV.undef) (List.replicate (ys.length*sz) CV.undef) (by simp[hl])
   rw[hp,←e]at this
   simp only[List.append_assoc]at ih1
   simp only[this,List.flatMap_cons,List.append_assoc]
   exact ih1
  ·rcases List.mem_cons.1 hx with rfl|hx
   ·exact hl
   ·exact ih2 x hx
theorem xz: ∀(vs:List Value),VRL G w (List.replicate vs.length .undef) vs
 |[]=>by simp[VRL]
 |v::r=>by simp only[List.length_cons,List.replicate_succ,VRL];exact⟨v,r,rfl,by simp[VR],xz r⟩
theorem wN {t e:TypeId}{sz len:Nat}{parts:Array (Nat×Operand)}{ps:List (Nat×CV)}{xs:List CV}{zc:List CV}(R:Rel G L s μ a.tmps w)(hu:P.underlying t=some (.slice e))(hsz:cL P e=some sz)
  (hz:zeroCells P e=some zc) (hp:dq (evA h s.fr) parts.toList=some ps) (hx:uI sz 0 ps=some xs) (hlen:xs.length=len) (hsm:len*sz≤10000):
  ∃cur:Array Value,(Instr.buildSlice t len (parts.map fun q=>(q.1,a.eval q.2))).run P w= .ok (.slice (some ⟨w.heap.size,0,none⟩) len len) (w.alloc (.cells cur e))∧
   VRL G w (xs.flatMap CV.cells) cur.toList∧cur.size=len*sz∧ ∀x∈xs,x.cells.length=sz:=by
 obtain⟨z,i,hi,hzi,hzr,hzl⟩:=iY (P:=P) (G:=G) (w:=w) hz
 have hpr:=nT R h hp
 have hparts:(parts.map fun q=>(q.1,a.eval q.2)).toList=parts.toList.map fun q=>(q.1,a.eval q.2):=by simp
 obtain⟨hf,hall⟩:=xU hx [] (by simp)
 simp only[List.nil_append]at hf
 have hfill: ∀zz:Array Value,∃b:Array Value,Instr.fill (fun i=>some (i*sz,sz)) ((Array.range (len*sz)).map (zz[· % zz.size]!)) (parts.toList.map fun q=>(q.1,a.eval q.2))=some b∧VRL G w (xs.flatMap CV.cells) b.toList∧b.size=len*sz:=by
  intro zz
  have hvl:VRL G w (List.replicate (xs.length*sz) CV.undef) ((Array.range (len*sz)).map (zz[· % zz.size]!)).toList:=by
   have:=xz (G:=G) (w:=w) ((Array.range (len*sz)).map (zz[· % zz.size]!)).toList
   rw[show ((Array.range (len*sz)).map (zz[· % zz.size]!)).toList.length=xs.length*sz by simp[hlen]]at this
   exact this
  obtain⟨b,hb,hr,hbs⟩:=pI hpr hvl hf
  exact⟨b,hb,hr,by rw[hbs];simp⟩
 have h24: ¬len*sz>2^24:=by omega
 by_cases h0:len*sz=0
 ·obtain⟨b,hb,hr,hbs⟩:=hfill #[]
  refine⟨b,?_,hr,hbs,hall⟩
  simp only[Instr.buildSlice,Sem.run_bind,run_underlying hu,Result.andThen_ok,dE hsz,if_neg h24,if_pos h0,Sem.run_pure,hparts,hb,newRow,run_newObj]
  rfl
 ·obtain⟨b,hb,hr,hbs⟩:=hfill z.cells
  refine⟨b,?_,hr,hbs,hall⟩
  simp only[Instr.buildSlice,Sem.run_bind,run_underlying hu,Result.andThen_ok,dE hsz,if_neg h24,if_neg h0,hzr,Sem.run_pure,hparts,hb,newRow,run_newObj]
  rfl
theorem zQ {t e:TypeId}{len sz:Nat}{parts:Array (Nat×Operand)}{ps:List (Nat×CV)}{xs zc:List CV}(ho:o.op= .buildSlice t len parts)(R:Rel G L s μ a.tmps w)(hd: ∀d,o.dst=some d→d<a.tmps.size)(hk:KOK L G w s μ a o.dst k r K)
  (hu:P.underlying t=some (.slice e)) (hsz:cL P e=some sz) (hby:me P e=true) (hz:zeroCells P e=some zc) (hp:dq (evA h s.fr) parts.toList=some ps) (hx:uI sz 0 ps=some xs) (hlen:xs.length=len) (hsm:len*sz≤10000) (hbt:(Nat.beq e 5||lj xs)=true)
  (hop : (match h.arr with
   |false=>k (.osl xs) (ac h.take s) μ
   |true=>k (.lsl (ac h.take s).lam.length 0 len) {ac h.take s with lam:=(ac h.take s).lam++[.arr sz (xs.flatMap CV.cells)]} μ)=some r):o.wp P a w K Q:=by
 obtain⟨R1,E1,hO⟩:=dx R h.take
 obtain⟨cur,hrun,hl,hcs,hall⟩:=wN R hu hsz hz hp hx hlen hsm
 have hrun':(execOp a.eval o).run P w= .ok (.value (.slice (some ⟨w.heap.size,0,none⟩) len len)) (w.alloc (.cells cur e)):=by
  simp only[execOp,ho]
  exact cK hrun
 have hsz1:1≤sz:=by
  unfold me at hby
  unfold cL at hsz
  split at hby<;>try(simp at hby;done)
  rename_i i hi
  rw[hi]at hsz
  simp only[Option.some.injEq,Bool.and_eq_true]at hsz hby
  have:=Nat.le_of_ble_eq_true hby.2
  omega
 have hlm:len≤10000:=Nat.le_trans (Nat.le_mul_of_pos_right len hsz1) hsm
 split at hop
 ·obtain ⟨G1, R2, E2⟩ := lH (o := o) (n := len * sz) (ob := .cells cur e) (v := .osl xs) (cv := .slice (some ⟨w.heap.size, 0, none⟩) len len) R1 E1 hd (fun hle => by
   simp only[LVR]
   refine .inr ⟨w.heap.size,len,cur,e,sz,by rw[hlen],heap_alloc_new w _,by omega,by unfold maxLen;omega,by omega,hall,fun h0=>by subst h0;simpa using hlen.symm,?_,by rw[dU,hlen],xH hbt⟩
   obtain⟨hlen2,hg⟩:=dQ hl
   refine EL_of (vs:=cur.toList) hall (eA hlen2 fun j c v hc hv=> ?_) fun j v hv=> ?_
   ·obtain⟨v',hv',hr⟩:=hg j c hc
    rw[hv]at hv'
    injection hv' with hv'
    subst hv'
    exact bk hle c v hr
   ·have hj:j<cur.size:=by have:=(List.getElem?_eq_some_iff.1 hv).1;simpa using this
    rw[Nat.zero_add,dU]
    refine⟨?_,by omega⟩
    rw[cell_of_heap (heap_alloc_new w (.cells cur e)) hj]
    rw[Array.getElem?_toList]at hv
    simp[Array.getD_eq_getD_getElem?,hv]) (fun b hb=>by simpa[aD]using hb.symm)
  exact dw hrun' (hk _ _ μ _ _ G1 hop R2 E2)
 ·obtain ⟨G1, R2, E2⟩ := iV (o := o) (kk := sz) (e := e) R1 E1 hd (nI cur) (ob := .arr sz (xs.flatMap CV.cells)) (.inr ⟨_, rfl, by have := VRL_len hl; simp at this ⊢; omega, fun j x hx => by
    obtain⟨v,hv,hr⟩:=(dQ hl).2 j x hx
    have:cur.getD j undef=v:=by
     rw[Array.getElem?_toList]at hv
     simp[Array.getD_eq_getD_getElem?,hv]
    rw[this];exact hr⟩)
   (fun cs' j b he hc => by cases he) (v := .lsl (ac h.take s).lam.length 0 len) (cv := .slice (some ⟨w.heap.size, 0, none⟩) len len) (fun G1 w1 hG hw => by
    subst hG;subst hw
    simp only[LVR]
    refine⟨by omega,len,cur,e,(0,0),by simp[Gh.setL],Nat.le_refl _,by unfold maxLen;omega,?_,?_⟩
    ·simp only[Gh.setL,and_self,if_true];exact heap_alloc_new w _
    ·simp only[Gh.setL,and_self,if_true];omega) (fun b hb=>by simp[aD]at hb)
  exact dw hrun' (hk _ _ μ _ _ G1 hop R2 E2)
theorem FR (c:Array Value)(e:TypeId):((w.alloc (.cells c e)).freeze ⟨w.heap.size,c.size,none⟩ 1)=w.alloc (.cells c e (c.size,c.size+1)):=by
 simp only[World.freeze,World.alloc,Nat.one_ne_zero,if_false]
 congr 1
 apply Array.ext
 ·simp
 ·intro i h1 h2
  simp only[Array.getElem_modify]
  by_cases hi:w.heap.size=i
  ·subst hi
   simp
  ·simp only[hi,if_false]
   have:i<w.heap.size:=by simp at h2;omega
   simp[Array.getElem_push,this]
def er (l:List UInt8):List Value:=l.map fun b=> .int .u8 (b.toNat:Int)
def ij (l:List UInt8)(n:Nat):Array Value:=(er l++List.replicate n (Value.int .u8 0)).toArray
theorem zO (l:List UInt8)(n:Nat):(ij l n).size=l.length+n:=by simp[ij,er]
theorem Bx {src dst e:TypeId}{l:List UInt8}(hu:P.underlying dst=some (.slice e))(hue:P.underlying e=some (.int .u8))(hs:P.underlying src=some .string)(hl:l.length≤1099511627776):
  ∃(cap:Nat) (cur:Array Value),(convert src dst (.string ⟨⟨l⟩⟩)).run P w= .ok (.slice (some ⟨w.heap.size,0,none⟩) l.length cap) (w.drew.alloc (.cells cur e (cur.size,cur.size+1)))∧
   l.length≤cap∧cap≤maxLen∧cur.size=cap∧ ∀(j:Nat) b,l[j]? =some b→cur.getD j undef= .int .u8 (b.toNat:Int):=by
 have hge:=grownCap_ge w l.length 0 e
 have hle:=grownCap_le_maxLen w l.length 0 e (by unfold maxLen;omega)
 refine⟨grownCap w l.length 0 e,ij l (grownCap w l.length 0 e-l.length),?_,hge,hle,by rw[zO];omega,?_⟩
 ·simp only[convert,Sem.run_bind,run_underlying hu,run_underlying hue,run_underlying hs,Result.andThen_ok,Conv.stringToBytes,run_choose,Question.forced,Bool.false_eq_true,if_false]
  have hsz:(⟨⟨l⟩⟩:ByteArray).size=l.length:=rfl
  rw[hsz]
  have hg:Question.cut (Question.appendCap l.length 0 e) (w.tape w.drawn (Question.appendCap l.length 0 e))=grownCap w l.length 0 e:=rfl
  rw[hg]
  have harr:(Array.map (fun(b:UInt8)=>Value.int .u8 (b.toNat:Int)) (⟨⟨l⟩⟩:ByteArray).data++Array.replicate (grownCap w l.length 0 e-l.length) (Value.int .u8 0))=
    ij l (grownCap w l.length 0 e-l.length):=by
   apply Array.ext'
   simp[ij,er]
  simp only[harr,newRow,Sem.run_bind,run_newObj,Result.andThen_ok,Sem.run_pure,markStringish,run_shape,World.alloc_eq,World.drew_eq,World.size_drew]
  have hsh:(w.drew.alloc (.cells (ij l (grownCap w l.length 0 e-l.length)) e)).shape? w.heap.size=some (e,(ij l (grownCap w l.length 0 e-l.length)).size):=by
   simp only[World.shape?]
   rw[show w.heap.size=w.drew.heap.size from rfl,heap_alloc_new]
  simp only[hsh,Sem.run_bind,run_freeze,Result.andThen_ok,Sem.run_pure]
  have:=FR (w:=w.drew) (ij l (grownCap w l.length 0 e-l.length)) e
  rw[show w.drew.heap.size=w.heap.size from rfl]at this
  rw[this]
 ·intro j b hb
  have hj:j<l.length:=(List.getElem?_eq_some_iff.1 hb).1
  have hj':(er l)[j]? =some (Value.int .u8 (b.toNat:Int)):=by simp[er,hb]
  have hjl:j<(er l).length:=by simpa[er]using hj
  simp only[ij,Array.getD_eq_getD_getElem?,List.getElem?_toArray,List.getElem?_append_left hjl,hj',Option.getD_some]
theorem pC: ∀l:List UInt8,(l.map fun(b:UInt8)=>CV.v (.int .u8 (b.toNat:Int))).flatMap CV.cells=l.map fun(b:UInt8)=>CV.v (.int .u8 (b.toNat:Int))
 |[]=>rfl
 |b::l=>by simp only[List.map_cons,List.flatMap_cons,pC l,CV.cells];rfl
theorem Fz {src dst e:TypeId}{x:Operand}{l:List UInt8}(ho:o.op= .convert src dst x)(R:Rel G L s μ a.tmps w)(hd: ∀d,o.dst=some d→d<a.tmps.size)(hk:KOK L G w s μ a o.dst k r K)
  (hu:P.underlying dst=some (.slice e)) (hue:P.underlying e=some (.int .u8)) (hs:P.underlying src=some .string) (he:evA h s.fr x=LV.str l) (hsm:bn l.length=true)
  (hop : (match h.arr with
    |true=>k (.lsl (ac h.take s).lam.length 0 l.length) {ac h.take s with lam:=(ac h.take s).lam++[.arr 1 (l.map fun b=> .v (.int .u8 (b.toNat:Int)))]} μ
    |false=>k (.cv (.sl (l.map fun b=> .v (.int .u8 (b.toNat:Int))))) (ac h.take s) μ)=some r):o.wp P a w K Q:=by
 obtain⟨R1,E1,hO⟩:=dx R h.take
 have hv:=cx R he
 simp only[VR]at hv
 simp only[bn,decide_eq_true_eq]at hsm
 obtain⟨cap,cur,hrun,h1,h2,h3,h4⟩:=Bx (P:=P) (w:=w) hu hue hs hsm
 have hrun':(execOp a.eval o).run P w= .ok (.value (.slice (some ⟨w.heap.size,0,none⟩) l.length cap)) (w.drew.alloc (.cells cur e (cur.size,cur.size+1))):=by
  simp only[execOp,ho,hv]
  exact cK hrun
 obtain⟨R2,hO2⟩:=R1.drew
 have E2:Ext L (ax G w s μ a.tmps) G w G w.drew (ax G w.drew (ac h.take s) μ a.tmps):=by
  refine E1.drew.weaken (fun _ h=>h) fun b hb=> ?_
  rcases hb with⟨l,hb⟩|hb
  ·exact .inl ⟨l,hO2 l b hb⟩
  ·exact .inr hb
 have hfz:dX cur (cur.size,cur.size+1):=fun j hj h=>by simp at h;omega
 have hcells: ∀(j:Nat) c,(l.map fun(b:UInt8)=>CV.v (.int .u8 (b.toNat:Int)))[j]? =some c→ ∃b,l[j]? =some b∧c= .v (.int .u8 (b.toNat:Int)):=by
  intro j c hc
  simp only[List.getElem?_map,Option.map_eq_some_iff]at hc
  obtain⟨b,hb,rfl⟩:=hc
  exact⟨b,hb,rfl⟩
 split at hop
 ·obtain ⟨G1, R3, E3⟩ := iV (o := o) (kk := 1) (e := e) R2 E2 hd hfz (ob := .arr 1 (l.map fun b => .v (.int .u8 (b.toNat : Int)))) (.inr ⟨_, rfl, by simp; omega, fun j x hx => by
    obtain⟨b,hb,rfl⟩:=hcells j x hx
    simp only[VR]
    exact h4 j b hb⟩)
   (fun cs' j b he hc => by cases he) (v := .lsl (ac h.take s).lam.length 0 l.length) (cv := .slice (some ⟨w.heap.size, 0, none⟩) l.length cap) (fun G1 w1 hG hw => by
    subst hG;subst hw
    simp only[LVR]
    refine⟨by omega,cap,cur,e,(cur.size,cur.size+1),by simp[Gh.setL],h1,h2,?_,?_⟩
    ·simp only[Gh.setL,and_self,if_true];exact heap_alloc_new w.drew _
    ·simp only[Gh.setL,and_self,if_true];omega) (fun b hb=>by simp[aD]at hb)
  exact dw hrun' (hk _ _ μ _ _ G1 hop R3 E3)
 ·obtain ⟨G1, R3, E3⟩ := lH (o := o) (n := cur.size) (ob := .cells cur e (cur.size, cur.size + 1)) (v := .cv (.sl (l.map fun b => .v (.int .u8 (b.toNat : Int))))) (cv := .slice (some ⟨w.heap.size, 0, none⟩) l.length cap) R2 E2 hd (fun hle => by
   simp only[LVR,VR]
   refine⟨_,l.length,cap,rfl,by simp,h1,.inr ⟨w.heap.size,0,1,rfl,fun x hx=> ?_,?_⟩⟩
   ·obtain⟨b,_,rfl⟩:=List.mem_map.1 hx;rfl
   ·have hflat:=pC l
    refine EL_of (vs:=(List.range l.length).map fun j=>cur.getD j undef) (fun x hx=>by obtain⟨b,_,rfl⟩:=List.mem_map.1 hx;rfl) ?_ fun j v hv=> ?_
    ·rw[hflat]
     refine eA (by simp) fun j c v hc hv=> ?_
     obtain⟨b,hb,rfl⟩:=hcells j c hc
     have hj:j<l.length:=(List.getElem?_eq_some_iff.1 hb).1
     simp only[List.getElem?_map,List.getElem?_range hj,Option.map_some,Option.some.injEq]at hv
     simp only[VR]
     rw[←hv];exact h4 j b hb
    ·have hj:j<l.length:=by have:=(List.getElem?_eq_some_iff.1 hv).1;simpa using this
     simp only[List.getElem?_map,List.getElem?_range hj,Option.map_some,Option.some.injEq]at hv
     rw[Nat.zero_add,←hv]
     refine⟨cell_of_heap (heap_alloc_new w.drew _) (by omega),?_⟩
     rw[show w.heap.size=w.drew.heap.size from rfl,dU];omega) (fun b hb=>by simp[aD]at hb)
  exact dw hrun' (hk _ _ μ _ _ G1 hop R3 E3)
end
end Go.Abs
set_option linter.unusedVariables false
set_option linter.unusedSimpArgs false
namespace Go.Abs
open Go
def Gh.cut (G:Gh)(m:Nat):Gh:={G with n:=fun l=>if l<m then G.n l else 0}
section
variable {G:Gh}{w:World}{lev m:Nat}
theorem bd {n:Nat}{c:CV}{r:List CV}(h:ck n (c::r)=true):below n c=true∧ck n r=true:=by
 simp only[ck]at h
 split at h
 ·exact⟨by assumption,h⟩
 ·simp at h
mutual
theorem dV: ∀(c:CV) (v:Value),below m c=true→VR G w c v→VR (G.cut m) w c v
 | .undef,v,_,_=>by simp[VR]
 | .v x,v,_,hv=>by simpa[VR]using hv
 | .agg cs,v,hb,hv=>by
  simp only[VR,below]at hv hb ⊢
  obtain⟨vs,e,hl⟩:=hv
  exact⟨vs,e,oe cs _ hb hl⟩
 | .sl xs,v,hb,hv=>by
  simp only[VR,below]at hv hb ⊢
  obtain⟨A,len,cap,e,h1,h2,h3⟩:=hv
  refine⟨A,len,cap,e,h1,h2,h3.imp id ?_⟩
  rintro⟨b,off,s,e1,hs,hl⟩
  exact⟨b,off,s,e1,hs,eR b s off xs hb hl⟩
 | .view cs,v,hb,hv=>by
  simp only[VR,below]at hv hb ⊢
  obtain⟨b,off,e,hl⟩:=hv
  exact⟨b,off,e,zd b off cs hb hl⟩
 | .ref l i off,v,hb,hv=>by
  simp only[VR,below,decide_eq_true_eq]at hv hb ⊢
  exact⟨by simp only[Gh.cut];rw[if_pos hb];exact hv.1,hv.2⟩
 | .msl l i off len,v,hb,hv=>by
  simp only[VR,below,decide_eq_true_eq]at hv hb ⊢
  exact⟨by simp only[Gh.cut];rw[if_pos hb];exact hv.1,hv.2⟩
 | .mview ks vs,v,hb,hv=>by
  simp only[VR,below]at hv hb ⊢
  obtain⟨r,es,clk,e,h1,h2,h3,h4⟩:=hv
  exact⟨r,es,clk,e,h1,h2,h3,oe vs _ hb h4⟩
 | .mref l i,v,hb,hv=>by
  simp only[VR,below,decide_eq_true_eq]at hv hb ⊢
  exact⟨by simp only[Gh.cut];rw[if_pos hb];exact hv.1,hv.2⟩
 | .tref l i t n,v,hb,hv=>by
  simp only[VR,below,decide_eq_true_eq]at hv hb ⊢
  exact⟨by simp only[Gh.cut];rw[if_pos hb];exact hv.1,hv.2⟩
 | .clo f caps,v,hb,hv=>by
  simp only[VR,below]at hv hb ⊢
  obtain⟨vs,e,hl⟩:=hv
  exact⟨vs,e,oe caps _ hb hl⟩
 | .iface t x,v,hb,hv=>by
  simp only[VR,below]at hv hb ⊢
  obtain⟨u,e,hl⟩:=hv
  exact⟨u,e,dV x u hb hl⟩
theorem oe: ∀(cs:List CV) (vs:List Value),ck m cs=true→VRL G w cs vs→VRL (G.cut m) w cs vs
 |[],vs,_,hv=>by simpa[VRL]using hv
 |c::cs,vs,hb,hv=>by
  simp only[VRL]at hv ⊢
  obtain⟨v,r,e,h1,h2⟩:=hv
  exact⟨v,r,e,dV c v (bd hb).1 h1,oe cs r (bd hb).2 h2⟩
theorem zd (b:Nat): ∀(off:Nat) (cs:List CV),ck m cs=true→CL G w b off cs→CL (G.cut m) w b off cs
 |_,[],_,_=>by simp[CL]
 |off,c::cs,hb,hv=>by
  simp only[CL]at hv ⊢
  obtain⟨⟨v,hc,ho,h1⟩,h2⟩:=hv
  exact⟨⟨v,hc,ho,dV c v (bd hb).1 h1⟩,zd _ (off+1) cs (bd hb).2 h2⟩
theorem eR (b s:Nat): ∀(off:Nat) (cs:List CV),ck m cs=true→EL G w b s off cs→EL (G.cut m) w b s off cs
 |_,[],_,_=>by simp[EL]
 |off,.agg cs::r,hb,hv=>by
  simp only[EL]at hv ⊢
  exact⟨zd b off cs (by simpa[below]using(bd hb).1) hv.1,eR b s (off+s) r (bd hb).2 hv.2⟩
 |off,.undef::r,hb,hv=>by
  simp only[EL]at hv ⊢
  obtain⟨⟨v,hc,ho,h1⟩,h2⟩:=hv
  exact⟨⟨v,hc,ho,by simp[VR]⟩,eR _ s (off+s) r (bd hb).2 h2⟩
 |off,.v x::r,hb,hv=>by
  simp only[EL]at hv ⊢
  obtain⟨⟨v,hc,ho,h1⟩,h2⟩:=hv
  exact⟨⟨v,hc,ho,dV (.v x) v (bd hb).1 h1⟩,eR _ s (off+s) r (bd hb).2 h2⟩
 |off,.sl x::r,hb,hv=>by
  simp only[EL]at hv ⊢
  obtain⟨⟨v,hc,ho,h1⟩,h2⟩:=hv
  exact⟨⟨v,hc,ho,dV (.sl x) v (bd hb).1 h1⟩,eR _ s (off+s) r (bd hb).2 h2⟩
 |off,.view x::r,hb,hv=>by
  simp only[EL]at hv ⊢
  obtain⟨⟨v,hc,ho,h1⟩,h2⟩:=hv
  exact⟨⟨v,hc,ho,dV (.view x) v (bd hb).1 h1⟩,eR _ s (off+s) r (bd hb).2 h2⟩
 |off,.ref x y z::r,hb,hv=>by
  simp only[EL]at hv ⊢
  obtain⟨⟨v,hc,ho,h1⟩,h2⟩:=hv
  exact⟨⟨v,hc,ho,dV (.ref x y z) v (bd hb).1 h1⟩,eR _ s (off+s) r (bd hb).2 h2⟩
 |off,.msl x y z l::r,hb,hv=>by
  simp only[EL]at hv ⊢
  obtain⟨⟨v,hc,ho,h1⟩,h2⟩:=hv
  exact⟨⟨v,hc,ho,dV (.msl x y z l) v (bd hb).1 h1⟩,eR _ s (off+s) r (bd hb).2 h2⟩
 |off,.mview x y::r,hb,hv=>by
  simp only[EL]at hv ⊢
  obtain⟨⟨v,hc,ho,h1⟩,h2⟩:=hv
  exact⟨⟨v,hc,ho,dV (.mview x y) v (bd hb).1 h1⟩,eR _ s (off+s) r (bd hb).2 h2⟩
 |off,.mref x y::r,hb,hv=>by
  simp only[EL]at hv ⊢
  obtain⟨⟨v,hc,ho,h1⟩,h2⟩:=hv
  exact⟨⟨v,hc,ho,dV (.mref x y) v (bd hb).1 h1⟩,eR _ s (off+s) r (bd hb).2 h2⟩
 |off,.tref x y t n::r,hb,hv=>by
  simp only[EL]at hv ⊢
  obtain⟨⟨v,hc,ho,h1⟩,h2⟩:=hv
  exact⟨⟨v,hc,ho,dV (.tref x y t n) v (bd hb).1 h1⟩,eR _ s (off+s) r (bd hb).2 h2⟩
 |off,.clo f x::r,hb,hv=>by
  simp only[EL]at hv ⊢
  obtain⟨⟨v,hc,ho,h1⟩,h2⟩:=hv
  exact⟨⟨v,hc,ho,dV (.clo f x) v (bd hb).1 h1⟩,eR _ s (off+s) r (bd hb).2 h2⟩
 |off,.iface t x::r,hb,hv=>by
  simp only[EL]at hv ⊢
  obtain⟨⟨v,hc,ho,h1⟩,h2⟩:=hv
  exact⟨⟨v,hc,ho,dV (.iface t x) v (bd hb).1 h1⟩,eR _ s (off+s) r (bd hb).2 h2⟩
end
theorem rb:G.below lev=G.cut (lev+1):=by
 simp only[Gh.below,Gh.cut,Nat.lt_succ_iff]
theorem zB (c:CV)(v:Value)(hb:below (lev+1) c=true)(h:VR G w c v):VR (G.below lev) w c v:=by
 rw[rb];exact dV c v hb h
theorem K3 (b s off:Nat)(cs:List CV)(hb:ck (lev+1) cs=true)(h:EL G w b s off cs):EL (G.below lev) w b s off cs:=by
 rw[rb];exact eR b s off cs hb h
theorem xx {xs:List CV}{v:Value}(hb:ck m xs=true)(h:kz G w xs v):kz (G.cut m) w xs v:=by
 rcases h with h|⟨b,cap,cur,e,s,h1,h2,h3,h4,h5,h6,h7,h8,h9,h10⟩
 ·exact .inl h
 ·exact .inr ⟨b,cap,cur,e,s,h1,h2,h3,h4,h5,h6,h7,eR b s 0 xs hb h8,h9,h10⟩
theorem BK {xs:List CV}{v:Value}(hb:ck (lev+1) xs=true)(h:kz G w xs v):kz (G.below lev) w xs v:=by
 rcases h with h|⟨b,cap,cur,e,s,h1,h2,h3,h4,h5,h6,h7,h8,h9,h10⟩
 ·exact .inl h
 ·exact .inr ⟨b,cap,cur,e,s,h1,h2,h3,h4,h5,h6,h7,K3 b s 0 xs hb h8,h9,h10⟩
theorem HW {L nl nl':Nat}{x:LV}{v:Value}(hb:xi lev x=true)(h:LVR G w L nl x v):LVR (G.below lev) w lev nl' x v:=by
 cases x<;>simp only[xi,Bool.false_eq_true]at hb<;>simp only[LVR]at h ⊢
 ·exact zB _ _ hb h
 ·exact BK hb h
end
section
variable {P:Program}{ρ:Rho}{α:Type}{L:Nat}{G:Gh}{w:World}{s:S}{μ:Mu}{a:Act}{o:Oper}{h:OpHint}{k:LV→S→Mu→Option α}{p:CV→S→Mu→Option α}{r:α}{K:Act→World→Prop}{Q:Exit→Act→World→Prop}
theorem Ht {x:Sem Unit}{w':World}(h:x.run P w= .ok () w'):(do x;pure Next.skip:Sem Next).run P w= .ok .skip w':=by
 rw[Sem.run_bind,h];rfl
theorem iw {cur:Array Value}{off:Nat}{vs:List Value}{j:Nat}(h:off+vs.length≤cur.size)(hj:j<vs.length):(bW cur off vs).getD (off+j) undef=vs.getD j undef:=by
 have:=rJ vs off cur j h hj
 simp only[Array.getD_eq_getD_getElem?,List.getD_eq_getElem?_getD,this]
theorem fl {cur:Array Value}{off:Nat}{vs:List Value}{j:Nat}(h:j<off∨off+vs.length≤j):(bW cur off vs).getD j undef=cur.getD j undef:=by
 simp only[Array.getD_eq_getD_getElem?]
 rcases h with h|h
 ·rw[jU vs off cur j h]
 ·rw[mV vs off cur j h]
theorem qp {n:Nat}{c:CV}(h:fg n c=true):c.cells.length=n∧gG c=true:=by
 simp only[fg,Bool.and_eq_true]at h
 exact⟨Nat.eq_of_beq_eq_true h.1,h.2⟩
theorem Rel.writeOb {G0:Gh}{w0:World}{tm:Array Value}{T0:Nat→Prop}{s1:S}{μ1:Mu}{lev i off:Nat}{ob o':Ob}{v:LV}{cv:Value}{t:TypeId}(R:Rel G L s μ tm w)
  (E:Ext L T0 G0 w0 G w (ax G w s μ tm)) (hob:aC (μ++[s.lam]) lev i=ob) (hw:bP P t ob off v=some o')
  (hv:(lev=L→LVR G w L s.lam.length v cv)∧(lev<L→LVR (G.below lev) w lev 0 v cv))
  (hown: ∀b,aD v cv b→(∀l,¬aw G w s.fr tm (μ++[s.lam]) l b)∧(∀lev i,aK (aC (μ++[s.lam]) lev i)→G.β lev i≠b)∧(T0 b∨w0.heap.size≤b))
  (hfr:s1.fr=s.fr) (hp:s1.pushed=s.pushed) (hlen:s1.lam.length=s.lam.length) (hμlen:μ1.length=μ.length) (hH:μ1++[s1.lam]=ci (μ++[s.lam]) lev i o'):
  ∃w',(storeVar t ⟨G.β lev i,off,none⟩ cv).run P w= .ok () w'∧Rel G L s1 μ1 tm w'∧Ext L T0 G0 w0 G w' (ax G w' s1 μ1 tm):=by
 have hl:aK (aC (μ++[s.lam]) lev i):=by
  rw[hob]
  cases ob<;>first|trivial|simp[bP]at hw
 have hlvl:lev=L∨lev<L:=by rcases cG R.lev hl with⟨h1,_⟩|⟨h1,_⟩<;>omega
 have hobr:(lev=L→ObR G w L s.lam.length (G.β lev i) (G.sz lev i) ob)∧(lev<L→ObR (G.below lev) w lev 0 (G.β lev i) (G.sz lev i) ob):=by
  rcases cG R.lev hl with⟨h1,h2⟩|⟨rfl,h1,h2⟩
  ·refine⟨fun e=>by omega,fun _=> ?_⟩
   rw[←hob,h2];exact R.mu lev i h1
  ·refine⟨fun _=> ?_,fun e=>by omega⟩
   rw[←hob,h2];exact R.lam i
 have hblk: ∃cur e fz,w.heap[G.β lev i]? =some (.cells cur e fz)∧dX cur fz∧G.O (G.β lev i)=0∧(∀cs,ob= .cells cs→cs.length≤cur.size)∧(∀k cs,ob= .arr k cs→k=G.sz lev i∧cs.length≤cur.size):=by
  rcases hlvl with e|e
  ·have:=hobr.1 e
   cases ob with
   |dead=>simp[bP]at hw
   |map ks vs=>simp[bP]at hw
   |cells cs=>
    simp only[ObR]at this
    obtain⟨cur,e,fz,h1,h2,h3,h4,_⟩:=this
    exact⟨cur,e,fz,h1,h2,h3,fun _ hc=>by injection hc with hc;subst hc;exact h4,fun _ _ hc=>by cases hc⟩
   |arr kk cs=>
    simp only[ObR]at this
    obtain⟨hk,cur,e,fz,h1,h2,h3,h4,_⟩:=this
    exact⟨cur,e,fz,h1,h2,h3,fun _ hc=>(by cases hc),fun _ _ hc=>(by injection hc with hc hc';subst hc;subst hc';exact⟨hk,h4⟩)⟩
  ·have:=hobr.2 e
   cases ob with
   |dead=>simp[bP]at hw
   |map ks vs=>simp[bP]at hw
   |cells cs=>
    simp only[ObR]at this
    obtain⟨cur,e,fz,h1,h2,h3,h4,_⟩:=this
    exact⟨cur,e,fz,h1,h2,h3,fun _ hc=>by injection hc with hc;subst hc;exact h4,fun _ _ hc=>by cases hc⟩
   |arr kk cs=>
    simp only[ObR]at this
    obtain⟨hk,cur,e,fz,h1,h2,h3,h4,_⟩:=this
    exact⟨cur,e,fz,h1,h2,h3,fun _ hc=>(by cases hc),fun _ _ hc=>(by injection hc with hc hc';subst hc;subst hc';exact⟨hk,h4⟩)⟩
 obtain⟨cur,e,fz,hb,hu,hO,hc1,hc2⟩:=hblk
 have hsz: ∃n,cL P t=some n∧cv.cells.size=n∧off+n≤cur.size∧(∀u∈cv.cells.toList,u.oneCell'=true):=by
  cases ob with
  |dead=>simp[bP]at hw
  |map ks vs=>simp[bP]at hw
  |cells cs=>
   simp only[bP]at hw
   obtain⟨vs,h1,hw⟩:=ab.1 hw
   obtain⟨n,hn,hw⟩:=ab.1 hw
   split at hw<;>simp only[Option.some.injEq,reduceCtorEq]at hw
   rename_i hc
   simp only[Bool.and_eq_true]at hc
   have hcn:=Nat.eq_of_beq_eq_true hc.1
   have hle:=Nat.le_of_ble_eq_true hc.2
   have:=hc1 cs rfl
   rcases hlvl with e|e
   ·obtain⟨h2,h3,h4,h5⟩:=gI h1 (hv.1 e)
    exact⟨n,hn,by omega,by omega,h4⟩
   ·obtain⟨h2,h3,h4,h5⟩:=gI h1 (hv.2 e)
    exact⟨n,hn,by omega,by omega,h4⟩
  |arr kk cs=>
   simp only[bP]at hw
   obtain⟨c,h1,hw⟩:=ab.1 hw
   obtain⟨n,hn,hw⟩:=ab.1 hw
   split at hw<;>simp only[Option.some.injEq,reduceCtorEq]at hw
   rename_i hc
   simp only[Bool.and_eq_true]at hc
   obtain⟨hcn,hso⟩:=qp hc.1
   have hle:=Nat.le_of_ble_eq_true hc.2
   have:=(hc2 kk cs rfl).2
   rcases hlvl with e|e
   ·obtain⟨h2,h3⟩:=iP hso (eH h1 (hv.1 e))
    have:=VRL_len h2
    exact⟨n,hn,by simp at this;omega,by omega,h3⟩
   ·obtain⟨h2,h3⟩:=iP hso (eH h1 (hv.2 e))
    have:=VRL_len h2
    exact⟨n,hn,by simp at this;omega,by omega,h3⟩
 obtain⟨n,hn,hcn,hfit,hone⟩:=hsz
 have hrun:(storeVar t ⟨G.β lev i,off,none⟩ cv).run P w= .ok () (w.setRow (G.β lev i) (bW cur off cv.cells.toList)):=by
  have:=ku (P:=P) (G.β lev i) off e fz cv.cells.toList 0 cur w hb hu (by simpa[hcn]using hfit) hone
  simp only[Nat.add_zero]at this
  simp only[storeVar,Sem.run_bind,dE hn,Result.andThen_ok,hcn,ne_eq,not_true_eq_false,if_false,this]
 have hvl:cv.cells.toList.length=n:=by simpa using hcn
 refine⟨_,hrun,?_⟩
 have hownβ: ∀b,aD v cv b→b≠G.β lev i:=fun b hb e=>(hown b hb).2.1 lev i hl e.symm
 have hcell: ∀cs' k b,o'= .cells cs'→cC cs' (bW cur off cv.cells.toList) k b→
   (aw G w s.fr tm (μ++[s.lam]) (.ob lev i k) b∧(k<off∨off+n≤k))∨(k=off∧aD v cv b):=by
  rintro cs' k b rfl ⟨x,hx,hox⟩
  cases ob with
  |dead=>simp[bP]at hw
  |map ks vs=>simp[bP]at hw
  |arr kk cs=>
   simp only[bP]at hw
   obtain⟨c,h1,hw⟩:=ab.1 hw
   obtain⟨n,hn,hw⟩:=ab.1 hw
   split at hw<;>simp at hw
  |cells cs=>
   simp only[bP]at hw
   obtain⟨vs,h1,hw⟩:=ab.1 hw
   obtain⟨n',hn',hw⟩:=ab.1 hw
   rw[hn]at hn'
   injection hn' with hn'
   subst hn'
   split at hw<;>simp only[Option.some.injEq,reduceCtorEq,Ob.cells.injEq]at hw
   rename_i hc
   simp only[Bool.and_eq_true]at hc
   have hvn:=Nat.eq_of_beq_eq_true hc.1
   have hle:=Nat.le_of_ble_eq_true hc.2
   subst hw
   have hlr: ∃(G2:Gh) (L2 nl2:Nat),LVR G2 w L2 nl2 v cv:=by
    rcases hlvl with e|e
    ·exact⟨_,_,_,hv.1 e⟩
    ·exact⟨_,_,_,hv.2 e⟩
   obtain⟨G2,L2,nl2,hlr⟩:=hlr
   obtain⟨h2,h3,h4,h5⟩:=gI h1 hlr
   by_cases hk:k<off∨off+n≤k
   ·left
    rw[fl (by rw[hvl];exact hk)]at hox
    have hx':cs[k]? =some x:=by
     rcases hk with hk|hk
     ·rw[eQ vs off cs k hk]at hx;exact hx
     ·rw[fJ vs off cs k (by omega)]at hx;exact hx
    refine⟨?_,hk⟩
    simp only[aw,hob,hx']
    exact⟨cur,e,fz,hb,hox⟩
   ·right
    obtain⟨j,rfl⟩: ∃j,k=off+j:=⟨k-off,by omega⟩
    rw[iw (by omega) (by omega)]at hox
    rw[iO vs off cs j (by omega) (by omega)]at hx
    have : cC vs cv.cells j b := ⟨x, hx, by
     rw[List.getD_eq_getElem?_getD,Array.getElem?_toList]at hox
     rw[Array.getD_eq_getD_getElem?];exact hox⟩
    obtain⟨hj,ho⟩:=h5 j b this
    exact⟨by omega,ho⟩
 have hnew: ∀G' w',Le G w G' w'→G'=G→w'=w.setRow (G.β lev i) (bW cur off cv.cells.toList)→ ∀(G2:Gh) (L2 nl2:Nat),(∀l i,G2.β l i=G.β l i)→G2.O=G.O→Le G2 w G2 w'→ObR G2 w L2 nl2 (G.β lev i) (G.sz lev i) ob→
   LVR G2 w L2 nl2 v cv→ObR G2 w' L2 nl2 (G.β lev i) (G.sz lev i) o':=by
  intro G' w' _ hG' hw' G2 L2 nl2 hβ2 hO2 hle2 hr hvr
  subst hw'
  have hnh:=setRow_heap w (G.β lev i) cur (bW cur off cv.cells.toList) e fz hb
  have hkeep: ∀b,b≠G.β lev i→(w.setRow (G.β lev i) (bW cur off cv.cells.toList)).heap[b]? =w.heap[b]? :=fun b h=>setRow_other w _ b _ h
  have hun:dX (bW cur off cv.cells.toList) fz:=fun j hj=>hu j (by simpa[du]using hj)
  cases ob with
  |dead=>simp[bP]at hw
  |map ks vs=>simp[bP]at hw
  |cells cs=>
   simp only[bP]at hw
   obtain⟨vs,h1,hw⟩:=ab.1 hw
   obtain⟨n',hn',hw⟩:=ab.1 hw
   rw[hn]at hn'
   injection hn' with hn'
   subst hn'
   split at hw<;>simp only[Option.some.injEq,reduceCtorEq]at hw
   rename_i hc
   simp only[Bool.and_eq_true]at hc
   have hvn:=Nat.eq_of_beq_eq_true hc.1
   have hle:=Nat.le_of_ble_eq_true hc.2
   subst hw
   obtain⟨h2,h3,h4,h5⟩:=gI h1 hvr
   simp only[ObR]at hr ⊢
   obtain⟨cur2,e2,fz2,hb2,_,_,hcs,hr⟩:=hr
   rw[hb]at hb2
   obtain⟨rfl,rfl,rfl⟩:=(Obj.cells.injEq ..).mp (Option.some.inj hb2)
   refine⟨_,e,fz,hnh,hun,by rw[hO2];exact hO,by rw[jW,du];exact hcs,fun k x hx=> ?_⟩
   by_cases hk:k<off∨off+n≤k
   ·rw[fl (by rw[hvl];exact hk)]
    have hx':cs[k]? =some x:=by
     rcases hk with hk|hk
     ·rw[eQ vs off cs k hk]at hx;exact hx
     ·rw[fJ vs off cs k (by omega)]at hx;exact hx
    refine df hle2 (Nat.le_refl _) (fun _ _=>⟨rfl,rfl⟩) x _ (fun b hox=>⟨hkeep b fun eb=> ?_,rfl⟩) (hr k x hx')
    subst eb
    refine R.apart (.ob lev i k) _ lev i ?_ hl rfl
    simp only[aw,hob,hx']
    exact⟨cur,e,fz,hb,hox⟩
   ·obtain⟨j,rfl⟩: ∃j,k=off+j:=⟨k-off,by omega⟩
    rw[iw (by omega) (by omega)]
    rw[iO vs off cs j (by omega) (by omega)]at hx
    have hgd:cv.cells.toList.getD j undef=cv.cells.getD j undef:=by
     rw[List.getD_eq_getElem?_getD,Array.getElem?_toList,Array.getD_eq_getD_getElem?]
    rw[hgd]
    refine df hle2 (Nat.le_refl _) (fun _ _=>⟨rfl,rfl⟩) x _ (fun b hox=>⟨hkeep b (hownβ b (h5 j b ⟨x,hx,hox⟩).2),rfl⟩) (h3 j x hx)
  |arr kk cs=>
   simp only[bP]at hw
   obtain⟨c,h1,hw⟩:=ab.1 hw
   obtain⟨n',hn',hw⟩:=ab.1 hw
   rw[hn]at hn'
   injection hn' with hn'
   subst hn'
   split at hw<;>simp only[Option.some.injEq,reduceCtorEq]at hw
   rename_i hc
   simp only[Bool.and_eq_true]at hc
   obtain⟨hvn,hso⟩:=qp hc.1
   have hle:=Nat.le_of_ble_eq_true hc.2
   subst hw
   obtain⟨h2,h3⟩:=iP hso (eH h1 hvr)
   simp only[ObR]at hr ⊢
   obtain⟨hkk,cur2,e2,fz2,hb2,_,_,hcs,hr⟩:=hr
   rw[hb]at hb2
   obtain⟨rfl,rfl,rfl⟩:=(Obj.cells.injEq ..).mp (Option.some.inj hb2)
   refine⟨hkk,_,e,fz,hnh,hun,by rw[hO2];exact hO,by rw[jW,du];exact hcs,fun k x hx=> ?_⟩
   by_cases hk:k<off∨off+n≤k
   ·rw[fl (by rw[hvl];exact hk)]
    have hx':cs[k]? =some x:=by
     rcases hk with hk|hk
     ·rw[eQ c.cells off cs k hk]at hx;exact hx
     ·rw[fJ c.cells off cs k (by omega)]at hx;exact hx
    exact bk hle2 x _ (hr k x hx')
   ·obtain⟨j,rfl⟩: ∃j,k=off+j:=⟨k-off,by omega⟩
    rw[iw (by omega) (by omega)]
    rw[iO c.cells off cs j (by omega) (by omega)]at hx
    obtain⟨u,hu1,hu2⟩:=(dQ h2).2 j x hx
    rw[List.getD_eq_getElem?_getD,hu1]
    exact bk hle2 x _ hu2
 obtain⟨R1,hle,hT,hO1,hO2,hlv⟩:=R.setOb (s1:=s1) (μ1:=μ1) (o':=o') (cur':=bW cur off cv.cells.toList) hl hb (du _ _ _) hfr hp hlen hμlen hH
  (fun G' w' hle hG hw' => ⟨fun e => by
    have hle':Le G w G w':=by rw[hG]at hle;exact hle
    rw[hG];exact hnew G' w' hle hG hw' G L s.lam.length (fun _ _=>rfl) rfl hle' (hobr.1 e) (hv.1 e),
   fun e=>by
    have hle':Le G w G w':=by rw[hG]at hle;exact hle
    rw[hG];exact hnew G' w' hle hG hw' (G.below lev) lev 0 (fun _ _=>rfl) rfl (hle'.below lev) (hobr.2 e) (hv.2 e)⟩)
  (fun cs' k b he hco => by
   rcases hcell cs' k b he hco with⟨h1,_⟩|⟨h1,h2⟩
   ·exact .inl h1
   ·refine .inr ⟨(hown b h2).1,(hown b h2).2.1,fun k' hk'=> ?_⟩
    rcases hcell cs' k' b he hk' with⟨h3,_⟩|⟨h3,_⟩
    ·exact absurd h3 ((hown b h2).1 _)
    ·omega)
 refine⟨R1,E.le.trans hle,E.os,E.tape,E.output,by simpa using E.size,fun b hb hn=> ?_,fun b hb=> ?_,E.lev⟩
 ·obtain⟨h1,h2⟩:=E.keep b hb hn
  refine⟨?_,h2⟩
  rw[←h1]
  refine setRow_other w _ b _ fun eb=> ?_
  subst eb
  rcases E.grow _ (.inr ⟨lev,i,hl,rfl⟩)with h|h
  ·exact hn h
  ·omega
 ·rcases hT b hb with h1|⟨cs',k,he,hco⟩
  ·exact E.grow b h1
  ·rcases hcell cs' k b he hco with⟨h1,_⟩|⟨_,h1⟩
   ·exact E.grow b (.inl ⟨_,h1⟩)
   ·exact(hown b h1).2.2
theorem N6 {t:TypeId}{x y:Operand}(ho:o.op= .store t x y)(R:Rel G L s μ a.tmps w)(hd: ∀d,o.dst=some d→d<a.tmps.size)(hk:KOK L G w s μ a o.dst k r K)
  (hop:gp P h t (evA h s.fr x) (evA h s.fr y) (ac h.take s) μ k=some r):o.wp P a w K Q:=by
 obtain⟨R1,E1,hO⟩:=dx R h.take
 have hl:=aT h.take s
 obtain⟨hv,hown⟩:=a8 R h y
 have hown': ∀b,aD (evA h s.fr y) (a.eval y) b→(∀l,¬aw G w (ac h.take s).fr a.tmps (μ++[(ac h.take s).lam]) l b)∧(∀lev i,aK (aC (μ++[(ac h.take s).lam]) lev i)→G.β lev i≠b)∧(ax G w s μ a.tmps b∨w.heap.size≤b):=by
  intro b hb
  obtain⟨tt,ht,hot⟩:=hown b hb
  refine⟨fun l hl'=> ?_,fun lev i hlv=> ?_,.inl (.inl ⟨.fr tt,hot⟩)⟩
  ·obtain⟨a1,a2⟩:=hO l b hl'
   exact a1 tt ht (R.own l (.fr tt) b a2 hot)
  ·rw[hl.1]at hlv
   exact R.apart (.fr tt) b lev i hot hlv
 unfold gp at hop
 split at hop
 ·rename_i i off he
  have hx:=(a8 R h x).1
  rw[he]at hx
  simp only[LVR]at hx
  split at hop<;>try(simp at hop;done)
  rw[kH]at hop
  obtain⟨o',h1,h2⟩:=ab.1 hop
  obtain⟨w',hrun,R2,E2⟩:=R1.writeOb (P:=P) (s1:={ac h.take s with lam:=(ac h.take s).lam.set i o'}) (μ1:=μ) (lev:=L) (i:=i) (off:=off) (cv:=a.eval y) E1 (by rw[←R.lev];exact bY) h1
   ⟨fun _=>by rw[hl.1];exact hv,fun e=>by omega⟩ hown' rfl rfl (by simp) rfl (by rw[←R.lev];exact rz.symm)
  obtain⟨R3,E3⟩:=cN (dst:=o.dst) (v:= .cv .undef) (cv:=undef) R2 E2 (by simp[LVR,VR]) (fun b hb=>by simp[aD]at hb) hd
  refine ma ?_ (hk _ _ _ _ w' G h2 R3 E3)
  simp only[execOp,ho,hx.2]
  refine Ht ?_
  simp only[Instr.storeAt,Instr.sureAddr,Sem.run_bind,Sem.run_pure,Result.andThen_ok,hrun]
 ·split at hop<;>try(simp at hop;done)
  obtain⟨q,hc,hop⟩:=ab.1 hop
  have hx:=cx R (nt hc)
  simp only[VR]at hx
  obtain⟨hok,hop⟩:=aJ.1 hop
  obtain⟨o',h1,h2⟩:=ab.1 hop
  have hq:q.1<μ.length:=by
   by_cases hq:q.1<μ.length
   ·exact hq
   ·simp only[bb]at h1
    rw[List.getElem?_eq_none (by omega)]at h1
    simp[bP]at h1
  obtain⟨w',hrun,R2,E2⟩:=R1.writeOb (P:=P) (s1:=ac h.take s) (μ1:=ci μ q.1 q.2.1 o') (lev:=q.1) (i:=q.2.1) (off:=q.2.2) (cv:=a.eval y) E1 (bC hq) h1
   ⟨fun e=>by rw[R.lev]at hq;omega,fun _=>HW hok hv⟩ hown' rfl rfl rfl gW.1 (ln hq).symm
  obtain⟨R3,E3⟩:=cN (dst:=o.dst) (v:= .cv .undef) (cv:=undef) R2 E2 (by simp[LVR,VR]) (fun b hb=>by simp[aD]at hb) hd
  refine ma ?_ (hk _ _ _ _ w' G h2 R3 E3)
  simp only[execOp,ho,hx.2]
  refine Ht ?_
  simp only[Instr.storeAt,Instr.sureAddr,Sem.run_bind,Sem.run_pure,Result.andThen_ok,hrun]
 ·simp at hop
end
end Go.Abs
set_option linter.unusedVariables false
set_option linter.unusedSimpArgs false
namespace Go.Abs
open Go
section
variable {P:Program}{ρ:Rho}{α:Type}{L:Nat}{G:Gh}{w:World}{s:S}{μ:Mu}{a:Act}{o:Oper}{h:OpHint}{k:LV→S→Mu→Option α}{p:CV→S→Mu→Option α}{r:α}{K:Act→World→Prop}{Q:Exit→Act→World→Prop}
theorem VRL_app: ∀{cs ds:List CV} {us vs:List Value},VRL G w cs us→VRL G w ds vs→VRL G w (cs++ds) (us++vs)
 |[],ds,us,vs,h,h'=>by simp only[VRL]at h;subst h;simpa using h'
 |c::cs,ds,us,vs,h,h'=>by
  simp only[VRL,List.cons_append]at h ⊢
  obtain⟨v,r,rfl,h1,h2⟩:=h
  exact⟨v,r++vs,rfl,h1,VRL_app h2 h'⟩
theorem sa {b s:Nat}: ∀{off:Nat} {xs:List CV},EL G w b s off xs→(∀x∈xs,x.cells.length=s)→ ∃vs,VRL G w (xs.flatMap CV.cells) vs∧ ∀(j:Nat) v,vs[j]? =some v→w.cell? ⟨b,off+j,none⟩=some v∧off+j<G.O b
 |off,[],_,_=>⟨[],by simp[VRL],fun j v hv=>by simp at hv⟩
 |off,x::xs,h,hs=>by
  have hx:=yG h 0 x rfl
  have h2:EL G w b s (off+s) xs:=by
   have:=wF 1 h
   simpa using this
  obtain⟨vs,h3,h4⟩:=sa h2 fun y hy=>hs y (List.mem_cons_of_mem _ hy)
  simp only[Nat.zero_mul,Nat.add_zero]at hx
  have hl:=hs x (by simp)
  have h5: ∃us,VRL G w x.cells us∧ ∀(j:Nat) v,us[j]? =some v→w.cell? ⟨b,off+j,none⟩=some v∧off+j<G.O b:=by
   obtain⟨us,h6,h7⟩:=wE hx
   refine⟨us,h6,fun j v hv=>⟨h7 j v hv,?_⟩⟩
   have hj:j<us.length:=(List.getElem?_eq_some_iff.1 hv).1
   have:=VRL_len h6
   obtain⟨v',_,h8,_⟩:=ze hx j (getElem x.cells j (by omega)) (by simp)
   exact h8
  obtain⟨us,h6,h7⟩:=h5
  have hus:=VRL_len h6
  refine⟨us++vs,?_,fun j v hv=> ?_⟩
  ·simp only[List.flatMap_cons]
   exact VRL_app h6 h3
  ·by_cases hj:j<us.length
   ·rw[List.getElem?_append_left hj]at hv
    exact h7 j v hv
   ·rw[List.getElem?_append_right (by omega)]at hv
    have:=h4 (j-us.length) v hv
    rw[show off+s+(j-us.length)=off+j by omega]at this
    exact this
theorem tD: ∀{xs:List CV},(∀x∈xs,gG x=true)→ ∀{vs:List Value},VRL G w (xs.flatMap CV.cells) vs→ ∀v∈vs,v.oneCell'=true
 |[],_,vs,h,v,hv=>by simp only[List.flatMap_nil,VRL]at h;subst h;simp at hv
 |x::xs,hs,vs,h,v,hv=>by
  have hx:=hs x (by simp)
  have key: ∀(cs ds:List CV) (vs:List Value),VRL G w (cs++ds) vs→ ∃us ws,vs=us++ws∧VRL G w cs us∧VRL G w ds ws:=by
   intro cs
   induction cs with
   |nil=>intro ds vs h;exact⟨[],vs,rfl,by simp[VRL],by simpa using h⟩
   |cons c cs ih=>
    intro ds vs h
    simp only[List.cons_append,VRL]at h
    obtain⟨v,r,rfl,h1,h2⟩:=h
    obtain⟨us,ws,rfl,h3,h4⟩:=ih ds r h2
    exact⟨v::us,ws,rfl,by simp only[VRL];exact⟨v,us,rfl,h1,h3⟩,h4⟩
  simp only[List.flatMap_cons]at h
  obtain⟨us,ws,rfl,h1,h2⟩:=key _ _ _ h
  rcases List.mem_append.1 hv with hv|hv
  ·unfold gG at hx
   split at hx
   ·exact lZ hx h1 v hv
   ·rename_i c hc
    have hcc:x.cells=[x]:=gM (by intro cs e;exact hc cs e)
    rw[hcc]at h1
    exact lZ (cs:=[x]) (by simp only[gn,hx]) h1 v hv
  ·exact tD (fun y hy=>hs y (List.mem_cons_of_mem _ hy)) h2 v hv
structure Appends (P:Program) (w:World) (xt:TypeId) (y:Value) (size m:Nat) (news:List Value):Prop where
 type: ∃d,P.underlying xt=some d∧ ∀k,d≠ .int k
 len: ∀w',(Builtin.lenOf y).run P w'= .ok m w'
 cells: ∀w',w'.heap=w.heap→(Builtin.firstCells size m y).run P w'= .ok news.toArray w'
 size:news.length=m*size
theorem BQ {t ty e xt:TypeId}{i:TypeInfo}{y:Value}{m:Nat}{news:List Value}(ht:P.underlying t=some (.slice e))(hi:P.info? e=some i)(A:Appends P w xt y i.size m news)
  {g sLen sCap:Nat} {cur:Array Value} {e':TypeId} {fz:Nat×Nat} (hg:w.heap[g]? =some (.cells cur e' fz)) (hfz:dX cur fz) (h1: ∀u∈news,u.oneCell'=true) (hroom:sLen+m≤sCap) (hfit:sLen*i.size+news.length≤cur.size):
  (Builtin.append_ #[t,xt] ty #[.slice (some ⟨g,0,none⟩) sLen sCap,y]).run P w= .ok (.slice (some ⟨g,0,none⟩) (sLen+m) sCap) (w.setRow g (bW cur (sLen*i.size) news)):=by
 obtain⟨d,hd,hni⟩:=A.type
 have hst:=ku (P:=P) g (sLen*i.size) e' fz news 0 cur w hg hfz (by simpa using hfit) h1
 have hf:=A.cells w rfl
 have hn:(match d with| .int _=>true|_=>false)=false:=by cases d<;>first|rfl|exact absurd rfl (hni _)
 simp only[Nat.add_zero]at hst
 simp[Builtin.append_,run_underlying ht,run_underlying hd,sizeOf,typeInfo,hi,A.len,hroom,hf,Addr.add_lit,hst,hn]
theorem BO {t ty e xt:TypeId}{i:TypeInfo}{z:Value}{y:Value}{m:Nat}{news:List Value}(ht:P.underlying t=some (.slice e))(hi:P.info? e=some i)(hz:i.zero=some z)(A:Appends P w xt y i.size m news)
  {v:Value} {b:Option Addr} {sLen sCap:Nat} {olds:List Value} (holds: ∀w',w'.heap=w.heap→(Builtin.firstCells i.size sLen (.slice b sLen sCap)).run P w'= .ok olds.toArray w')
  (hg:sCap<sLen+m) (h63:((sLen+m:Nat):Int)≤9223372036854775807) (hfit:Builtin.nextslicecap (sLen+m) sCap*i.bytes≤281474976710656):
  (Builtin.append_ #[t,xt] ty #[.slice b sLen sCap,y]).run P w=
   .ok (.slice (some ⟨w.heap.size,0,none⟩) (sLen+m) (grownCap w (sLen+m) sCap e))
    (w.drew.alloc (.cells (olds.toArray++news.toArray++Builtin.zeroCells z.cells (grownCap w (sLen+m) sCap e-(sLen+m))) e)):=by
 obtain⟨d,hd,hni⟩:=A.type
 have hn0:(match d with| .int _=>true|_=>false)=false:=by cases d<;>first|rfl|exact absurd rfl (hni _)
 have hn: ¬(sLen+m≤sCap):=by omega
 have h63': ¬(9223372036854775807<((sLen:Int)+(m:Int))):=by omega
 have h48': ¬(281474976710656<Builtin.nextslicecap (sLen+m) sCap*i.bytes):=by omega
 have hf:=A.cells w.drew rfl
 have hfo:=holds w.drew rfl
 simp[Builtin.append_,run_underlying ht,run_underlying hd,hn0,sizeOf,typeInfo,zeroValue,hi,hz,A.len,hn,h63',h48',Question.forced,hf,hfo,newRow,grownCap]
 congr 2
 apply Array.ext'
 simp[List.append_assoc]
theorem BP {t ty e xt:TypeId}{i:TypeInfo}{y:Value}(ht:P.underlying t=some (.slice e))(hi:P.info? e=some i)(A:Appends P w xt y i.size 0 []):
  (Builtin.append_ #[t,xt] ty #[.slice none 0 0,y]).run P w= .ok (.slice none 0 0) w:=by
 obtain⟨d,hd,hni⟩:=A.type
 have hn0:(match d with| .int _=>true|_=>false)=false:=by cases d<;>first|rfl|exact absurd rfl (hni _)
 simp[Builtin.append_,run_underlying ht,run_underlying hd,hn0,sizeOf,typeInfo,hi,A.len,A.cells w rfl]
theorem BN {G0:Gh}{w0:World}{T0:Nat→Prop}(R:Rel G L s μ a.tmps w)(E:Ext L T0 G0 w0 G w (ax G w s μ a.tmps))(hd: ∀d,o.dst=some d→d<a.tmps.size)
  {t ty e xt:TypeId} {i:TypeInfo} {z:Value} {u y:Value} {m:Nat} {news:List Value} {xs ys:List CV} (ht:P.underlying t=some (.slice e)) (hi:P.info? e=some i) (hz:i.zero=some z) (hzs:z.cells.size=i.size)
  (hb1:1≤i.size) (hb2:i.bytes≤128) (A:Appends P w xt y i.size m news) (hy:VRL G w (ys.flatMap CV.cells) news) (hm:ys.length=m)
  (hxs: ∀x∈xs,x.cells.length=i.size∧gG x=true) (hys: ∀x∈ys,x.cells.length=i.size∧gG x=true) (hsm:xs.length+ys.length≤1099511627776) (hbt:(Nat.beq e 5||lj ys)=true)
  (hu:kz G w xs u) (hown: ∀b,aD (.osl xs) u b→(∀l,¬aw G w s.fr a.tmps (μ++[s.lam]) l b)∧(∀lev i,aK (aC (μ++[s.lam]) lev i)→G.β lev i≠b)∧(T0 b∨w0.heap.size≤b)):
  ∃cv w' G',(Builtin.append_ #[t,xt] ty #[u,y]).run P w= .ok cv w'∧Rel G' L (s.put o.dst (.osl (xs++ys))) μ (a.put o.dst cv).tmps w'∧Ext L T0 G0 w0 G' w' (ax G' w' (s.put o.dst (.osl (xs++ys))) μ (a.put o.dst cv).tmps):=by
 have hnl:news.length=ys.length*i.size:=by rw[A.size,hm]
 have hone: ∀u∈news,u.oneCell'=true:=tD (fun x hx=>(hys x hx).2) hy
 have grown: ∀(b:Option Addr) (cap:Nat) (olds:List Value),u= .slice b xs.length cap→cap<xs.length+m→ys≠[]→VRL G w (xs.flatMap CV.cells) olds→
   (∀w',w'.heap=w.heap→(Builtin.firstCells i.size xs.length (.slice b xs.length cap)).run P w'= .ok olds.toArray w')→
   ∃cv w' G',(Builtin.append_ #[t,xt] ty #[u,y]).run P w= .ok cv w'∧Rel G' L (s.put o.dst (.osl (xs++ys))) μ (a.put o.dst cv).tmps w'∧Ext L T0 G0 w0 G' w' (ax G' w' (s.put o.dst (.osl (xs++ys))) μ (a.put o.dst cv).tmps):=by
  intro b cap olds hu' hcap hyne hox hol
  subst hu'
  have hmul:(xs.length+m)*i.bytes≤(xs.length+m)*128:=Nat.mul_le_mul_left _ hb2
  have hrun:=BO (P:=P) (w:=w) (ty:=ty) (v:=y) ht hi hz A hol hcap (by omega) (growslice_fits hcap (by omega))
  obtain⟨R2,hO2⟩:=R.drew
  have E2:Ext L T0 G0 w0 G w.drew (ax G w.drew s μ a.tmps):=by
   refine E.drew.weaken (fun _ h=>h) fun b hb=> ?_
   rcases hb with⟨l,hb⟩|hb
   ·exact .inl ⟨l,hO2 l b hb⟩
   ·exact .inr hb
  have hge:=grownCap_ge w (xs.length+m) cap e
  have hcm:grownCap w (xs.length+m) cap e≤maxLen:=grownCap_le_maxLen w (xs.length+m) cap e (by unfold maxLen;omega)
  have hol2:=VRL_len hox
  have hfl:=mH (fun x hx=>(hxs x hx).1)
  have hall: ∀x∈xs++ys,x.cells.length=i.size:=fun x hx=>by
   rcases List.mem_append.1 hx with hx|hx
   ·exact(hxs x hx).1
   ·exact(hys x hx).1
  have hlen:(xs++ys).length=xs.length+m:=by rw[List.length_append,hm]
  generalize hcur:olds.toArray++news.toArray++Builtin.zeroCells z.cells (grownCap w (xs.length+m) cap e-(xs.length+m))=cur at hrun
  have hcs:cur.size=grownCap w (xs.length+m) cap e*i.size:=by
   rw[←hcur]
   simp only[Array.size_append,List.size_toArray,size_zeroCells,hzs,hnl,←hol2,hfl,hm]
   rw[←Nat.add_mul,←Nat.add_mul]
   congr 1
   omega
  have hgetl: ∀(j:Nat) v,(olds++news)[j]? =some v→cur.getD j undef=v:=by
   intro j v hv
   have hj:j<(olds++news).length:=(List.getElem?_eq_some_iff.1 hv).1
   rw[←hcur,Array.getD_eq_getD_getElem?,←Array.getElem?_toList]
   simp only[Array.toList_append,List.append_assoc]
   rw[←List.append_assoc,List.getElem?_append_left (by simpa using hj),hv]
   rfl
  obtain ⟨G1, R3, E3⟩ := lH (o := o) (n := (xs ++ ys).length * i.size) (ob := .cells cur e) (v := .osl (xs ++ ys)) (cv := .slice (some ⟨w.heap.size, 0, none⟩) (xs.length + m) (grownCap w (xs.length + m) cap e)) R2 E2 hd (fun hle => by
   simp only[LVR]
   refine .inr ⟨w.heap.size,grownCap w (xs.length+m) cap e,cur,e,i.size,by rw[hlen],heap_alloc_new w.drew _,by omega,hcm,by omega,hall,fun h0=> ?_,?_,by rw[show w.heap.size=w.drew.heap.size from rfl,dU],B0 hbt hyne⟩
   ·have:=congrArg List.length h0
    rw[hlen]at this
    simp only[List.length_nil]at this
    omega
   ·have hvl:VRL G w ((xs++ys).flatMap CV.cells) (olds++news):=by
     rw[List.flatMap_append];exact VRL_app hox hy
    obtain⟨hl2,hg2⟩:=dQ hvl
    refine EL_of (vs:=olds++news) hall (eA hl2 fun j c v hc hv=> ?_) fun j v hv=> ?_
    ·obtain⟨v',hv',hr⟩:=hg2 j c hc
     rw[hv]at hv'
     injection hv' with hv'
     subst hv'
     exact bk hle c v (bk (G:=G) (w:=w) (G':=G) (w':=w.drew) ⟨fun _ _ _ h hb=>⟨h,hb⟩,fun _ _ h=>⟨h,rfl,rfl⟩,fun _ _ _ h hc=>⟨h,hc⟩,fun b cur e fz h=>⟨cur,fz,h,rfl⟩⟩ c v hr)
    ·have hj:j<(olds++news).length:=(List.getElem?_eq_some_iff.1 hv).1
     have hj2:j<(xs++ys).length*i.size:=by
      rw[←mH hall,hl2];exact hj
     have hj3:j<cur.size:=by
      rw[hcs]
      refine Nat.lt_of_lt_of_le hj2 (Nat.mul_le_mul_right _ ?_)
      omega
     rw[Nat.zero_add,show w.heap.size=w.drew.heap.size from rfl,dU]
     refine⟨?_,hj2⟩
     rw[cell_of_heap (heap_alloc_new w.drew (.cells cur e)) hj3,hgetl j v hv]) (fun b hb=>by simpa[aD]using hb.symm)
  exact⟨_,_,G1,hrun,R3,E3⟩
 rcases hu with⟨rfl,rfl⟩|⟨b,cap,cur,e',sz,hue,hb,hc1,hc2,hc3,hc4,hc5,hel,hO,hC⟩
 ·by_cases h0:m=0
  ·subst h0
   have hy0:ys=[]:=List.eq_nil_of_length_eq_zero hm
   subst hy0
   have hn0:news=[]:=List.eq_nil_of_length_eq_zero (by simpa using hnl)
   subst hn0
   have hrun:=BP (P:=P) (w:=w) (ty:=ty) ht hi A
   obtain⟨R2,E2⟩:=cN (dst:=o.dst) (v:= .osl []) (cv:= .slice none 0 0) R E (by simp only[LVR];exact .inl ⟨rfl,rfl⟩) (fun b hb=>by simp[aD]at hb) hd
   exact⟨_,_,G,hrun,R2,E2⟩
  ·exact grown none 0 [] rfl (by simp only[List.length_nil];omega) (fun h=>h0 (by subst h;simpa using hm.symm)) (by simp[VRL]) (fun w' _=>run_firstCells_none w' _ _ _ _)
 ·subst hue
  obtain⟨olds,hox,hoc⟩:=sa hel hc4
  have hsz:xs=[]∨sz=i.size:=by
   cases xs with
   |nil=>exact .inl rfl
   |cons x xs=>exact .inr ((hc4 x (by simp)).symm.trans (hxs x (by simp)).1)
  have hol2:=VRL_len hox
  have hfl:=mH (fun x hx=>(hxs x hx).1)
  by_cases hroom:xs.length+m≤cap
  ·
   have hcap0:xs=[]→m=0:=fun h=>by have:=hc5 h;subst h;simp only[List.length_nil]at hroom;omega
   have hfit:xs.length*i.size+news.length≤cur.size:=by
    rcases hsz with h0|h0
    ·have:=hcap0 h0
     subst h0
     rw[hnl,hm,this];simp
    ·subst h0
     rw[hnl,hm,←Nat.add_mul]
     exact Nat.le_trans (Nat.mul_le_mul_right _ hroom) hc3
   have hrun:=BQ (P:=P) (w:=w) (ty:=ty) ht hi A hb (nI cur) hone hroom hfit
   obtain⟨ho1,ho2,ho3⟩:=hown b (by simp[aD])
   have hOb:G.O b=xs.length*i.size:=by
    rw[hO]
    rcases hsz with h0|h0
    ·subst h0;simp
    ·rw[h0]
   have hblk: ∀b',b'≠b→(w.setRow b (bW cur (xs.length*i.size) news)).heap[b']? =w.heap[b']? :=fun b' h=>setRow_other w b b' _ h
   have hnh:=setRow_heap w b cur (bW cur (xs.length*i.size) news) e' (0,0) hb
   have hle:Le G w (G.setO b ((xs++ys).length*i.size)) (w.setRow b (bW cur (xs.length*i.size) news)):=by
    refine⟨fun b' es clk h hb'=> ?_,fun _ _ h=>⟨h,rfl,rfl⟩,fun b' off v h hc=> ?_,fun b' cur2 e2 fz2 h=> ?_⟩
    ·have hne:b'≠b:=fun e=>by subst e;rw[hb]at hb';cases hb'
     exact⟨by rw[cR hne];exact h,by rw[hblk b' hne];exact hb'⟩
    ·by_cases hne:b'=b
     ·subst hne
      rw[dU]
      refine⟨?_,?_⟩
      ·rw[hOb]at h
       refine Nat.lt_of_lt_of_le h (Nat.mul_le_mul_right _ ?_)
       simp
      ·rw[hOb]at h
       have hcur:off<cur.size:=by omega
       rw[cell_of_heap hb hcur]at hc
       rw[cell_of_heap hnh (by rw[du];exact hcur),fl (.inl h)]
       exact hc
     ·refine⟨by rw[cR hne];exact h,?_⟩
      rw[←hc]
      simp only[World.cell?]
      rw[hblk b' hne]
    ·by_cases hne:b'=b
     ·subst hne
      rw[hb]at h
      obtain⟨rfl,rfl,rfl⟩:=(Obj.cells.injEq ..).mp (Option.some.inj h)
      exact⟨_,_,hnh,du _ _ _⟩
     ·exact⟨cur2,fz2,by rw[hblk b' hne];exact h,rfl⟩
   have hTb: ∀b',fb G w s.fr a.tmps (μ++[s.lam]) b'→b'≠b:=by
    rintro b' (⟨l,hl⟩|⟨lev,j,hl,rfl⟩) e
    ·subst e;exact ho1 l hl
    ·exact ho2 lev j hl e
   obtain⟨R2,hO2⟩:=R.frame hle (fun b' hb'=>⟨hblk b' (hTb b' hb'),cR (hTb b' hb')⟩) (fun _ _ _=>⟨rfl,rfl⟩) rfl
   have E2:Ext L T0 G0 w0 (G.setO b ((xs++ys).length*i.size)) (w.setRow b (bW cur (xs.length*i.size) news)) (ax (G.setO b ((xs++ys).length*i.size)) (w.setRow b (bW cur (xs.length*i.size) news)) s μ a.tmps):=by
    refine⟨E.le.trans hle,E.os,E.tape,E.output,by simpa using E.size,fun b' hb' hn=> ?_,fun b' hb'=> ?_,E.lev⟩
    ·obtain⟨h1,h2⟩:=E.keep b' hb' hn
     have hne:b'≠b:=fun e=>by
      subst e
      rcases ho3 with h|h
      ·exact hn h
      ·omega
     exact⟨(hblk b' hne).trans h1,(cR hne).trans h2⟩
    ·refine E.grow b' ?_
     rcases hb' with⟨l,hl⟩|hl
     ·exact .inl ⟨l,hO2 l b' hl⟩
     ·exact .inr hl
   have hlen:(xs++ys).length=xs.length+m:=by rw[List.length_append,hm]
   have hall: ∀x∈xs++ys,x.cells.length=i.size:=fun x hx=>by
    rcases List.mem_append.1 hx with hx|hx
    ·exact(hxs x hx).1
    ·exact(hys x hx).1
   have hvl:VRL G w ((xs++ys).flatMap CV.cells) (olds++news):=by
    rw[List.flatMap_append];exact VRL_app hox hy
   have hoL:olds.length=xs.length*i.size:=by rw[←hol2,hfl]
   obtain ⟨R3, E3⟩ := cN (dst := o.dst) (v := .osl (xs ++ ys)) (cv := .slice (some ⟨b, 0, none⟩) (xs.length + m) cap) R2 E2 (by
    simp only[LVR]
    refine .inr ⟨b,cap,_,e',i.size,by rw[hlen],hnh,by omega,hc2,?_,hall,fun h0=> ?_,?_,dU,fun hb1 hb2=>hC (qf xs ys hb1) fun hxn=>hb2 (by subst hxn;have:=hcap0 rfl;rw[List.nil_append];exact List.eq_nil_of_length_eq_zero (by omega))⟩
    ·rw[du]
     rcases hsz with h0|h0
     ·have:=hc5 h0
      rw[this];simp
     ·rw[←h0];exact hc3
    ·exact hc5 (List.append_eq_nil_iff.1 h0).1
    ·obtain⟨hl2,hg2⟩:=dQ hvl
     refine EL_of (vs:=olds++news) hall (eA hl2 fun j c v hc hv=> ?_) fun j v hv=> ?_
     ·obtain⟨v',hv',hr⟩:=hg2 j c hc
      rw[hv]at hv'
      injection hv' with hv'
      subst hv'
      exact bk hle c v hr
     ·have hj:j<(olds++news).length:=(List.getElem?_eq_some_iff.1 hv).1
      have hj2:j<(xs++ys).length*i.size:=by rw[←mH hall,hl2];exact hj
      rw[List.length_append]at hj
      rw[Nat.zero_add,dU]
      refine⟨?_,hj2⟩
      rw[cell_of_heap hnh (by rw[du];omega)]
      by_cases hjo:j<olds.length
      ·rw[List.getElem?_append_left hjo]at hv
       rw[fl (.inl (by omega))]
       have h1:=(hoc j v hv).1
       rw[Nat.zero_add,cell_of_heap hb (by omega)]at h1
       exact h1
      ·rw[List.getElem?_append_right (by omega)]at hv
       have:=iw (cur:=cur) (off:=xs.length*i.size) (vs:=news) (j:=j-olds.length) hfit (by omega)
       rw[show xs.length*i.size+(j-olds.length)=j by omega]at this
       rw[this,List.getD_eq_getElem?_getD,hv]
       rfl) (fun b' hb'=>by
    have:b=b':=by simpa[aD]using hb'
    subst this
    exact⟨fun l hl=>ho1 l (hO2 l b hl),fun lev j hl=>ho2 lev j hl,ho3⟩) hd
   exact⟨_,_,_,hrun,R3,E3⟩
  ·refine grown (some ⟨b,0,none⟩) cap olds rfl (by omega) (fun hyn=>by subst hyn;simp only[List.length_nil]at hm;omega) hox fun w' hw'=> ?_
   refine run_firstCells_some w' i.size xs.length ⟨b,0,none⟩ xs.length cap olds (by rw[←hol2,hfl]) fun j v hv=> ?_
   have:=(hoc j v hv).1
   rw[eS]
   simp only[World.cell?]at this ⊢
   rw[hw']
   exact this
theorem Fu {t e xt e':TypeId}{sz:Nat}{ys:List CV}{y:Value}(hu:P.underlying xt=some (.slice e'))(hv:VR G w (.sl ys) y)(hs: ∀x∈ys,x.cells.length=sz):
  ∃news,Appends P w xt y sz ys.length news∧VRL G w (ys.flatMap CV.cells) news:=by
 simp only[VR]at hv
 obtain⟨A,len,cap,rfl,rfl,hlc,hx⟩:=hv
 rcases hx with h0|⟨b,off,sz',rfl,hs',hel⟩
 ·have:ys=[]:=List.eq_nil_of_length_eq_zero h0
  subst this
  refine⟨[],⟨⟨_,hu,fun k=>by simp⟩,fun w'=>rfl,fun w' _=> ?_,by simp⟩,by simp[VRL]⟩
  cases A with
  |none=>exact run_firstCells_none w' _ _ _ _
  |some A=>simp[Builtin.firstCells,loadCells,loadCellsFrom]
 ·obtain⟨news,h1,h2⟩:=sa hel hs'
  have hl:=VRL_len h1
  rw[mH hs]at hl
  refine⟨news,⟨⟨_,hu,fun k=>by simp⟩,fun w'=>rfl,fun w' hw'=> ?_,hl.symm⟩,h1⟩
  refine run_firstCells_some w' sz ys.length _ _ _ news hl.symm fun j v hv=> ?_
  have:=(h2 j v hv).1
  rw[eS]
  simp only[World.cell?]at this ⊢
  rw[hw']
  exact this
theorem BR {xt:TypeId}{l:List UInt8}(hu:P.underlying xt=some .string):
  ∃news,Appends P w xt (.string ⟨⟨l⟩⟩) 1 l.length news∧VRL G w ((l.map fun(b:UInt8)=>CV.v (.int .u8 (b.toNat:Int))).flatMap CV.cells) news:=by
 refine⟨er l,⟨⟨_,hu,fun k=>by simp⟩,fun w'=>rfl,fun w' _=> ?_,by simp[er]⟩,?_⟩
 ·simp only[Builtin.firstCells]
  have:((⟨⟨l⟩⟩:ByteArray).extract 0 l.length).data=⟨l⟩:=by
   have h2:(⟨⟨l⟩⟩:ByteArray).extract 0 l.length=⟨⟨l⟩⟩:=by
    have:=ByteArray.extract_zero_size (b:=⟨⟨l⟩⟩)
    exact this
   rw[h2]
  rw[this]
  simp[er]
 ·rw[pC]
  refine eA (by simp[er]) fun j c v hc hv=> ?_
  simp only[er,List.getElem?_map,Option.map_eq_some_iff]at hc hv
  obtain⟨b,hb,rfl⟩:=hc
  obtain⟨b',hb',rfl⟩:=hv
  rw[hb]at hb'
  injection hb' with hb'
  subst hb'
  simp[VR]
theorem zP {e:TypeId}{i:TypeInfo}(hi:P.info? e=some i)(h:me P e=true):i.bytes≤128∧1≤i.size:=by
 unfold me at h
 rw[hi]at h
 simp only[Bool.and_eq_true]at h
 exact⟨Nat.le_of_ble_eq_true h.1,Nat.le_of_ble_eq_true h.2⟩
theorem Ln {x y:Operand}{c:Call}{t:TypeId}{ts:List TypeId}(ho:o.op= .call c)(hc:c.callee= .builtin .append)(hx:c.args.toList=[x,y])(ht:c.argTypes.toList=t::ts)(R:Rel G L s μ a.tmps w)(hd: ∀d,o.dst=some d→d<a.tmps.size)
  (hk:KOK L G w s μ a o.dst k r K) (hts:ts.length≤1) (hop:eY P h t ts.head? (evA h s.fr x) (evA h s.fr y) (ac h.take s) μ k=some r):o.wp P a w K Q:=by
 obtain⟨R1,E1,hO⟩:=dx R h.take
 have hl:=aT h.take s
 unfold eY at hop
 split at hop<;>try(simp at hop;done)
 rename_i e hu
 obtain⟨sz,hsz,hop1⟩:=ab.1 hop
 obtain⟨hby,hop2⟩:=aJ.1 hop1
 obtain⟨zc,hz,hop3⟩:=ab.1 hop2
 obtain⟨hzl,hop4⟩:=aJ.1 hop3
 clear hop hop1 hop2 hop3
 have hzl:=Nat.eq_of_beq_eq_true hzl
 cases hth:ts.head? with
 |none=>rw[hth]at hop4;simp at hop4
 |some xt=>
  rw[hth]at hop4
  obtain⟨xs,hxs,hop⟩:=ab.1 hop4
  clear hop4
  have htl:ts=[xt]:=by
   cases ts with
   |nil=>simp at hth
   |cons q ts=>
    simp only[List.head?_cons,Option.some.injEq]at hth
    subst hth
    cases ts with
    |nil=>rfl
    |cons=>simp at hts
  subst htl
  have hargs:c.args= #[x,y]:=by cases ha:c.args;simp_all
  have htys:c.argTypes= #[t,xt]:=by cases ha:c.argTypes;simp_all
  obtain⟨i,hi,his⟩:=Hx hsz
  obtain⟨hb2,hb1⟩:=zP hi hby
  obtain⟨z,i',hi',hiz,hzr,hzv⟩:=iY (P:=P) (G:=G) (w:=w) hz
  rw[hi]at hi'
  injection hi' with hi'
  subst hi'
  have hzs:z.cells.size=i.size:=by have:=VRL_len hzv;simp at this;omega
  obtain⟨hou,how⟩:=il hxs (a8 R h x).1
  have hown: ∀b,aD (.osl xs) (a.eval x) b→(∀l,¬aw G w (ac h.take s).fr a.tmps (μ++[(ac h.take s).lam]) l b)∧(∀lev i,aK (aC (μ++[(ac h.take s).lam]) lev i)→G.β lev i≠b)∧(ax G w s μ a.tmps b∨w.heap.size≤b):=by
   intro b hb
   obtain⟨tt,htt,hot⟩:=(a8 R h x).2 b (how b hb)
   refine⟨fun l hl'=> ?_,fun lev i hlv=> ?_,.inl (.inl ⟨.fr tt,hot⟩)⟩
   ·obtain⟨a1,a2⟩:=hO l b hl'
    exact a1 tt htt (R.own l (.fr tt) b a2 hot)
   ·rw[hl.1]at hlv
    exact R.apart (.fr tt) b lev i hot hlv
  have fin: ∀{ys:List CV} {m:Nat} {news:List Value},Appends P w xt (a.eval y) i.size m news→VRL G w (ys.flatMap CV.cells) news→ys.length=m→(∀x∈xs,x.cells.length=i.size∧gG x=true)→(∀x∈ys,x.cells.length=i.size∧gG x=true)→
    xs.length+ys.length≤1099511627776→(Nat.beq e 5||lj ys)=true→k (.osl (xs++ys)) (ac h.take s) μ=some r→o.wp P a w K Q:=by
   intro ys m news hA hyv hym hxa hya hsm hbt hkr
   obtain⟨cv,w',G',hrun,R2,E2⟩:=BN (P:=P) (o:=o) (ty:=o.type) R1 E1 hd hu hi hiz hzs hb1 hb2 hA hyv hym hxa hya hsm hbt hou hown
   refine dw ?_ (hk _ _ _ _ w' G' hkr R2 E2)
   simp only[execOp,ho,resolve,hc,hargs,htys,Sem.run_bind,Sem.run_pure,Result.andThen_ok,invoke,builtin,List.map_toArray,List.map_cons,List.map_nil]
   rw[hrun];rfl
  split at hop
  ·rename_i hux
   obtain⟨l,hl2,hop⟩:=ab.1 hop
   obtain⟨hg,hop⟩:=aJ.1 hop
   simp only[Bool.and_eq_true]at hg
   obtain⟨hg0,⟨hg1,hg2⟩,hg3⟩:=hg
   have hg1:=Nat.eq_of_beq_eq_true hg1
   simp only[bn,decide_eq_true_eq]at hg2
   have hyv:=cx R (fi hl2)
   simp only[VR]at hyv
   obtain⟨news,hA,hn⟩:=BR (P:=P) (G:=G) (w:=w) (l:=l) hux
   have h1:i.size=1:=by omega
   rw[←hyv,←h1]at hA
   refine fin hA hn (by simp) ?_ (fun x hx=> ?_) (by simpa using hg2) (by rw[hg0];rfl) hop
   ·rw[h1];exact iJ hg3
   ·obtain⟨b,_,rfl⟩:=List.mem_map.1 hx
    exact⟨h1.symm,rfl⟩
  ·rename_i e' hux
   obtain⟨ys,hys,hop⟩:=ab.1 hop
   obtain⟨hg,hop⟩:=aJ.1 hop
   simp only[gE,Bool.and_eq_true]at hg
   obtain⟨hg0,⟨hg1,hg2⟩,hg3⟩:=hg
   simp only[bn,decide_eq_true_eq]at hg1
   have hv:=fS hys (a8 R h y).1
   obtain⟨news,hA,hn⟩:=Fu (P:=P) (t:=t) (e:=e) hux hv (fun x hx=>((iJ hg3) x hx).1)
   rw[←his]at hA hg2 hg3
   exact fin hA hn rfl (iJ hg2) (iJ hg3) hg1 hg0 hop
  ·simp at hop
end
end Go.Abs
set_option linter.unusedVariables false
set_option linter.unusedSimpArgs false
namespace Go.Abs
open Go
def aM (args:List LV):S:=⟨dL (jm 0 args),[],false⟩
def Gh.withO (G:Gh)(O':Nat→Nat):Gh:={G with O:=O'}
def eX (L:Nat)(T:Nat→Prop)(G:Gh)(w:World):Out→Ending→World→Prop
 | .ret v μ',.returned cv,w'=> ∃O',Rel (G.withO O') L (aM [v]) μ' #[cv] w'∧Ext L T G w (G.withO O') w' (ax (G.withO O') w' (aM [v]) μ' #[cv])
 | .panic v μ',.panicked ch,w'=> ∃O' pv,ch=[{v:=pv,recovered:=false}]∧VR (G.withO O') w' v pv∧Rel (G.withO O') L (aM []) μ' #[] w'∧
   Ext L T G w (G.withO O') w' (ax (G.withO O') w' (aM []) μ' #[])
 |_,_,_=>False
def Kn (W0 w:World)(T:Nat→Prop):Prop:=W0.heap.size≤w.heap.size∧ ∀b,b<W0.heap.size→w.heap[b]? =W0.heap[b]? ∧ ¬T b
theorem Kn.ext {W0 w w':World}{T T':Nat→Prop}{L:Nat}{G G':Gh}(h:Kn W0 w T)(E:Ext L T G w G' w' T'):Kn W0 w' T':=by
 refine⟨Nat.le_trans h.1 E.size,fun b hb=> ?_⟩
 obtain⟨h1,h2⟩:=h.2 b hb
 have hlt:b<w.heap.size:=Nat.lt_of_lt_of_le hb h.1
 refine⟨(E.keep b hlt h2).1.trans h1,fun ht=> ?_⟩
 rcases E.grow b ht with h3|h3
 ·exact h2 h3
 ·omega
theorem Kn.mono {W0 w:World}{T T':Nat→Prop}(h:Kn W0 w T)(hT: ∀b,T' b→T b):Kn W0 w T':=⟨h.1,fun b hb=>⟨(h.2 b hb).1,fun ht=>(h.2 b hb).2 (hT b ht)⟩⟩
def cD (P:Program)(W0:World)(f:FuncId)(args:List LV)(μ:Mu)(out:Out):Prop:=
 (∃fn c,P.funcs[f]? =some fn∧fn.body=some c∧(fn.name == "runtime.NumGoroutine")=false)∧
 ∀(G:Gh) (w:World) (cargs:Array Value),cargs.size=args.length→Rel G μ.length (aM args) μ cargs w→Kn W0 w (ax G w (aM args) μ cargs)→
  Calls P f cargs w (eX μ.length (ax G w (aM args) μ cargs) G w out)
section
variable {G:Gh}{w w':World}{L:Nat}{μ μ':Mu}
theorem km {lev i:Nat}(h:aK (aC (μ++[[]]) lev i)):lev<μ.length∧aC (μ++[[]]) lev i=bb μ lev i:=by
 rcases Nat.lt_trichotomy lev μ.length with h1|h1|h1
 ·exact⟨h1,bC h1⟩
 ·subst h1
  simp only[aC,bY,aG]at h
  simp[aK]at h
 ·simp only[aC,oD h1]at h
  exact h.elim
theorem fu {fr:Fr}{tm:Array Value}{H:Mu}{lev i k b:Nat}(h:aw G w fr tm H (.ob lev i k) b):aK (aC H lev i):=by
 simp only[aw]at h
 split at h
 ·rename_i cs hcs;rw[hcs];trivial
 ·exact h.elim
theorem gZ {G':Gh}{fr fr':Fr}{tm tm':Array Value}{H H':Mu}{lev i k b:Nat}(ho:aC H' lev i=aC H lev i)(hβ:G'.β lev i=G.β lev i)(hb:w'.heap[G.β lev i]? =w.heap[G.β lev i]?)
  (h:aw G' w' fr' tm' H' (.ob lev i k) b):aw G w fr tm H (.ob lev i k) b:=by
 simp only[aw,ho,hβ,hb]at h ⊢
 exact h
theorem Rel.mergeU {s sr:S}{tm tmr:Array Value}{T:Nat→Prop}{O':Nat→Nat}(R:Rel G L s μ tm w)(hp:s.pushed=false)
  (hT: ∀b,T b→(∀t,¬aD (s.fr t) (tm.getD t undef) b)∧(∀i k,¬aw G w s.fr tm (μ++[s.lam]) (.ob L i k) b)∧ ∀i,aK (aG s.lam i)→G.β L i≠b)
  (hlam:sr.lam=[]) (Rc:Rel (G.withO O') L sr μ' tmr w') (E:Ext L T G w (G.withO O') w' (ax (G.withO O') w' sr μ' tmr)):
  Rel (G.withO O') L s μ' tm w'∧
  (∀l b,aw (G.withO O') w' s.fr tm (μ'++[s.lam]) l b→(b<w.heap.size∧ ¬T b∧aw G w s.fr tm (μ++[s.lam]) l b)∨((∃lev i k,l= .ob lev i k)∧aw (G.withO O') w' sr.fr tmr (μ'++[sr.lam]) l b))∧
  (∀lev i,aK (aC (μ'++[s.lam]) lev i)→(G.β lev i<w.heap.size∧ ¬T (G.β lev i)∧lev=L∧aK (aC (μ++[s.lam]) lev i))∨aK (aC (μ'++[sr.lam]) lev i)):=by
 have hμ':=Rc.lev
 have hμ:=R.lev
 have hkeep: ∀b,b<w.heap.size→ ¬T b→w'.heap[b]? =w.heap[b]? ∧(G.withO O').O b=G.O b:=fun b hb hn=>E.keep b hb hn
 have hfrT: ∀t b,aD (s.fr t) (tm.getD t undef) b→b<w.heap.size∧ ¬T b:=fun t b hb=>⟨R.touch_lt (.inl ⟨.fr t,hb⟩),fun h=>(hT b h).1 t hb⟩
 have hobT: ∀i k b,aw G w s.fr tm (μ++[s.lam]) (.ob L i k) b→b<w.heap.size∧ ¬T b:=fun i k b hb=>⟨R.touch_lt (.inl ⟨_,hb⟩),fun h=>(hT b h).2.1 i k hb⟩
 have eL: ∀i,aC (μ++[s.lam]) L i=aG s.lam i:=fun i=>by rw[←hμ];exact bY
 have eL': ∀i,aC (μ'++[s.lam]) L i=aG s.lam i:=fun i=>by rw[←hμ'];exact bY
 have hβT: ∀i,aK (aG s.lam i)→G.β L i<w.heap.size∧ ¬T (G.β L i):=fun i hl=>⟨R.touch_lt (.inr ⟨L,i,by rw[eL];exact hl,rfl⟩),fun h=>(hT _ h).2.2 i hl rfl⟩
 have elt: ∀lev i,lev<L→aC (μ'++[s.lam]) lev i=aC (μ'++[sr.lam]) lev i:=fun lev i h=>by
  rw[aC,aC,bC (by omega),bC (by omega)]
 have hown: ∀l b,aw (G.withO O') w' s.fr tm (μ'++[s.lam]) l b→(b<w.heap.size∧ ¬T b∧aw G w s.fr tm (μ++[s.lam]) l b)∨((∃lev i k,l= .ob lev i k)∧aw (G.withO O') w' sr.fr tmr (μ'++[sr.lam]) l b):=by
  intro l b h
  cases l with
  |fr t=>exact .inl ⟨(hfrT t b h).1,(hfrT t b h).2,h⟩
  |ob lev i k=>
   have hl:=fu h
   rcases cG hμ' hl with⟨h1,h2⟩|⟨rfl,h1,h2⟩
   ·exact .inr ⟨⟨_,_,_,rfl⟩,gZ (elt lev i h1) rfl rfl h⟩
   ·have hl':aK (aG s.lam i):=by rw[←h2];exact hl
    have h3:aw G w s.fr tm (μ++[s.lam]) (.ob lev i k) b:=gZ (fr':=s.fr) (tm':=tm) (by rw[eL,eL']) rfl (hkeep _ (hβT i hl').1 (hβT i hl').2).1 h
    exact .inl ⟨(hobT i k b h3).1,(hobT i k b h3).2,h3⟩
 have hlive: ∀lev i,aK (aC (μ'++[s.lam]) lev i)→(G.β lev i<w.heap.size∧ ¬T (G.β lev i)∧lev=L∧aK (aC (μ++[s.lam]) lev i))∨aK (aC (μ'++[sr.lam]) lev i):=by
  intro lev i hl
  rcases cG hμ' hl with⟨h1,h2⟩|⟨rfl,h1,h2⟩
  ·exact .inr (by rw[←elt lev i h1];exact hl)
  ·have hl':aK (aG s.lam i):=by rw[←h2];exact hl
   exact .inl ⟨(hβT i hl').1,(hβT i hl').2,rfl,by rw[eL];exact hl'⟩
 have hTr: ∀b,ax (G.withO O') w' sr μ' tmr b→T b∨w.heap.size≤b:=E.grow
 refine⟨⟨hμ',fun t=> ?_,fun i=> ?_,Rc.mu,fun lev i lev' i' h h' e=> ?_,fun l l' b h h'=> ?_,fun l b lev i h h' e=> ?_,Rc.nlt,R.nL,R.ngt⟩,hown,hlive⟩
 ·exact df E.le (Nat.le_refl _) (fun _ _=>⟨rfl,rfl⟩) _ _ (fun b hb=>hkeep b (hfrT t b hb).1 (hfrT t b hb).2) (R.fr t)
 ·refine cU E.le (Nat.le_refl _) (fun _ _=>⟨rfl,rfl⟩) (fun hl=>hkeep _ (hβT i hl).1 (hβT i hl).2) (fun cs j x cur e fz ho hx hb b' hb'=> ?_) (R.lam i)
  have h3:aw G w s.fr tm (μ++[s.lam]) (.ob L i j) b':=by
   simp only[aw,eL,ho,hx]
   exact⟨cur,e,fz,hb,hb'⟩
  exact hkeep b' (hobT i j b' h3).1 (hobT i j b' h3).2
 ·rcases hlive lev i h with⟨h1,h2,rfl,h3⟩|h1<;>rcases hlive lev' i' h' with⟨h1',h2',rfl,h3'⟩|h1'
  ·exact R.inj _ i _ i' h3 h3' e
  ·exfalso
   have e':G.β lev i=G.β lev' i':=e
   rw[e']at h1 h2
   rcases hTr (G.β lev' i') (.inr ⟨lev',i',h1',rfl⟩)with hh|hh
   ·exact h2 hh
   ·omega
  ·exfalso
   have e':G.β lev i=G.β lev' i':=e
   rw[←e']at h1' h2'
   rcases hTr (G.β lev i) (.inr ⟨lev,i,h1,rfl⟩)with hh|hh
   ·exact h2' hh
   ·omega
  ·exact Rc.inj lev i lev' i' h1 h1' e
 ·rcases hown l b h with⟨h1,h2,h3⟩|⟨⟨_,_,_,rfl⟩,h3⟩<;>rcases hown l' b h' with⟨h1',h2',h3'⟩|⟨⟨_,_,_,rfl⟩,h3'⟩
  ·exact R.own l l' b h3 h3'
  ·exfalso
   rcases hTr b (.inl ⟨_,h3'⟩)with hh|hh
   ·exact h2 hh
   ·omega
  ·exfalso
   rcases hTr b (.inl ⟨_,h3⟩)with hh|hh
   ·exact h2' hh
   ·omega
  ·exact Rc.own _ _ b h3 h3'
 ·have e':G.β lev i=b:=e
  rcases hown l b h with⟨h1,h2,h3⟩|⟨⟨_,_,_,rfl⟩,h3⟩<;>rcases hlive lev i h' with⟨h1',h2',rfl,h3'⟩|h3'
  ·exact R.apart l b lev i h3 h3' e'
  ·rcases hTr b (.inr ⟨lev,i,h3',e'⟩)with hh|hh
   ·exact h2 hh
   ·omega
  ·subst e'
   rcases hTr _ (.inl ⟨_,h3⟩)with hh|hh
   ·exact h2' hh
   ·omega
  ·exact Rc.apart _ b lev i h3 h3' e'
theorem ry: ∀(args:List LV) (n t:Nat),dL (jm n args) t=if n≤t then(args[t-n]?).getD (.cv .undef)else .cv .undef
 |[],n,t=>by simp[jm,dL]
 |v::r,n,t=>by
  simp only[jm,dL]
  split
  ·rename_i h
   have:=Nat.eq_of_beq_eq_true h
   subst this
   simp
  ·rename_i h
   have hne:t≠n:=fun e=>by subst e;simp[Nat.beq_refl]at h
   rw[ry r (n+1) t]
   by_cases h1:n+1≤t
   ·rw[if_pos h1,if_pos (by omega),show t-n=(t-(n+1))+1 by omega]
    simp
   ·rw[if_neg h1,if_neg (by omega)]
theorem cu (args:List LV)(t:Nat):(aM args).fr t=(args[t]?).getD (.cv .undef):=by
 simp only[aM,ry,Nat.zero_le,if_true,Nat.sub_zero]
theorem Bc {nl nl' L':Nat}{x:LV}{v:Value}(hx:g0 x=true)(h:LVR G w L nl x v):LVR G w L' nl' x v:=by
 cases x<;>simp only[g0,Bool.false_eq_true]at hx<;>simpa[LVR]using h
theorem Rel.enterU {s:S}{tm cargs:Array Value}{args:List LV}(R:Rel G L s μ tm w)(hp:s.pushed=false)(hv: ∀j x,args[j]? =some x→g0 x=true∧LVR G w L s.lam.length x (cargs.getD j undef))
  (ho: ∀j x b,args[j]? =some x→aD x (cargs.getD j undef) b→(∃t,aD (s.fr t) (tm.getD t undef) b)∧ ∀j' x',args[j']? =some x'→aD x' (cargs.getD j' undef) b→j'=j):
  Rel G L (aM args) μ cargs w∧
  (∀l b,aw G w (aM args).fr cargs (μ++[(aM args).lam]) l b→(∃j x,l= .fr j∧args[j]? =some x∧aD x (cargs.getD j undef) b)∨(∃lev i k,l= .ob lev i k∧lev<L∧aw G w s.fr tm (μ++[s.lam]) l b))∧
  (∀lev i,aK (aC (μ++[(aM args).lam]) lev i)→lev<L∧aK (aC (μ++[s.lam]) lev i)):=by
 have hμ:=R.lev
 have hlive: ∀lev i,aK (aC (μ++[(aM args).lam]) lev i)→lev<L∧aK (aC (μ++[s.lam]) lev i):=by
  intro lev i h
  obtain⟨h1,h2⟩:=km h
  refine⟨by omega,?_⟩
  have h3:aC (μ++[s.lam]) lev i=bb μ lev i:=bC h1
  rw[h3,←h2];exact h
 have hown: ∀l b,aw G w (aM args).fr cargs (μ++[(aM args).lam]) l b→(∃j x,l= .fr j∧args[j]? =some x∧aD x (cargs.getD j undef) b)∨(∃lev i k,l= .ob lev i k∧lev<L∧aw G w s.fr tm (μ++[s.lam]) l b):=by
  intro l b h
  cases l with
  |fr t=>
   simp only[aw,cu]at h
   cases hx:args[t]? with
   |none=>rw[hx]at h;simp[aD]at h
   |some x=>rw[hx]at h;exact .inl ⟨t,x,rfl,hx,h⟩
  |ob lev i k=>
   have hl:=fu h
   obtain⟨h1,h2⟩:=km hl
   refine .inr ⟨lev,i,k,rfl,by omega,gZ (fr':=(aM args).fr) (tm':=cargs) ?_ rfl rfl h⟩
   rw[show aC (μ++[(aM args).lam]) lev i=bb μ lev i from h2]
   exact(bC h1).symm
 refine⟨⟨hμ,fun t=> ?_,fun i=> ?_,R.mu,fun lev i lev' i' h h' e=>R.inj lev i lev' i' (hlive lev i h).2 (hlive lev' i' h').2 e,fun l l' b h h'=> ?_,fun l b lev i h h' e=> ?_,R.nlt,?_,R.ngt⟩,hown,hlive⟩
 ·rw[cu]
  cases hx:args[t]? with
  |none=>simp[LVR,VR]
  |some x=>exact Bc (hv t x hx).1 (hv t x hx).2
 ·have:aG (aM args).lam i= .dead:=by simp[aM,aG]
  rw[this];trivial
 ·rcases hown l b h with⟨j,x,rfl,hx,hox⟩|⟨lev,i,k,rfl,hlt,h1⟩<;>rcases hown l' b h' with⟨j',x',rfl,hx',hox'⟩|⟨lev',i',k',rfl,hlt',h1'⟩
  ·rw[(ho j x b hx hox).2 j' x' hx' hox']
  ·obtain⟨t,ht⟩:=(ho j x b hx hox).1
   exact absurd (R.own (.fr t) _ b ht h1') (by simp)
  ·obtain⟨t,ht⟩:=(ho j' x' b hx' hox').1
   exact absurd (R.own (.fr t) _ b ht h1) (by simp)
  ·exact R.own _ _ b h1 h1'
 ·rcases hown l b h with⟨j,x,rfl,hx,hox⟩|⟨lev',i',k,rfl,hlt,h1⟩
  ·obtain⟨t,ht⟩:=(ho j x b hx hox).1
   exact R.apart (.fr t) b lev i ht (hlive lev i h').2 e
  ·exact R.apart _ b lev i h1 (hlive lev i h').2 e
 ·have:=R.nL
  rw[hp]at this
  simpa[aM]using this
end
end Go.Abs
set_option linter.unusedVariables false
set_option linter.unusedSimpArgs false
namespace Go.Abs
open Go
section
variable {P:Program}{W0:World}{ρ:Rho}{α:Type}{L:Nat}{G:Gh}{w:World}{s:S}{μ:Mu}{a:Act}{o:Oper}{h:OpHint}{k:LV→S→Mu→Option α}{p:CV→S→Mu→Option α}{r:α}{K:Act→World→Prop}{Q:Exit→Act→World→Prop}
theorem xK {h:OpHint}{x:Operand}{b:Nat}(ho:aD (evA h s.fr x) (a.eval x) b): ∃t,x= .tmp t∧t∈h.take∧aD (s.fr t) (a.tmps.getD t undef) b:=by
 cases x with
 |tmp t=>
  simp only[evA,Act.eval]at ho
  cases ht:nS h.take t with
  |true=>rw[ht]at ho;exact⟨t,rfl,mR.1 ht,ho⟩
  |false=>rw[ht]at ho;exact absurd ho ie
 |const c=>exact absurd ho u7
 |global g=>simp[evA,aD]at ho
 |func f=>simp[evA,aD]at ho
theorem uL: ∀{l:List Operand} {t j:Nat},l[j]? =some (.tmp t)→uK t l=true
 |[],t,j,h=>by simp at h
 |x::r,t,0,h=>by
  simp only[List.getElem?_cons_zero,Option.some.injEq]at h
  subst h
  simp[uK,Nat.beq_refl]
 |x::r,t,j+1,h=>by
  have ih:=uL (l:=r) (t:=t) (j:=j) (by simpa using h)
  cases x<;>simp only[uK,ih]
  split<;>rfl
theorem ka {x:Operand}{r:List Operand}(h:ff (x::r)=true):ff r=true∧ ∀t,x= .tmp t→uK t r=false:=by
 cases x<;>simp only[ff]at h
 ·rename_i t
  split at h
  ·simp at h
  ·rename_i hm
   exact⟨h,fun u e=>by injection e with e;subst e;simpa using hm⟩
 all_goals exact⟨h,fun t e=>by cases e⟩
theorem qh: ∀{l:List Operand},ff l=true→ ∀{t j j':Nat},l[j]? =some (.tmp t)→l[j']? =some (.tmp t)→j=j'
 |[],_,t,j,j',h,_=>by simp at h
 |x::r,hd,t,0,0,_,_=>rfl
 |x::r,hd,t,0,j'+1,h,h'=>by
  simp only[List.getElem?_cons_zero,Option.some.injEq]at h
  have:=uL (l:=r) (t:=t) (j:=j') (by simpa using h')
  rw[(ka hd).2 t h]at this
  cases this
 |x::r,hd,t,j+1,0,h,h'=>by
  simp only[List.getElem?_cons_zero,Option.some.injEq]at h'
  have:=uL (l:=r) (t:=t) (j:=j) (by simpa using h)
  rw[(ka hd).2 t h']at this
  cases this
 |x::r,hd,t,j+1,j'+1,h,h'=>by
  have:=qh (ka hd).1 (t:=t) (j:=j) (j':=j') (by simpa using h) (by simpa using h')
  omega
theorem qm: ∀{l:List LV},fk l=true→ ∀{j:Nat} {x:LV},l[j]? =some x→g0 x=true
 |[],_,j,x,h=>by simp at h
 |y::r,hp,j,x,h=>by
  simp only[fk]at hp
  split at hp<;>try(simp at hp;done)
  cases j with
  |zero=>simp only[List.getElem?_cons_zero,Option.some.injEq]at h;subst h;assumption
  |succ j=>exact qm hp (by simpa using h)
theorem Calls.mono {f:FuncId}{args:Array Value}{R R':Ending→World→Prop}(h:Calls P f args w R)(hR: ∀e w',R e w'→R' e w'):Calls P f args w R':=by
 intro cs
 obtain⟨e,w',fr,h1,h2⟩:=h cs
 exact⟨e,w',fr,hR e w' h1,h2⟩
structure ArgsR (G:Gh) (w:World) (L:Nat) (s:S) (tm:Array Value) (ts:List Nat) (args:List LV) (cargs:Array Value):Prop where
 size:cargs.size=args.length
 val: ∀j x,args[j]? =some x→LVR G w L s.lam.length x (cargs.getD j undef)
 own: ∀j x b,args[j]? =some x→aD x (cargs.getD j undef) b→(∃t,t∈ts∧aD (s.fr t) (tm.getD t undef) b)∧ ∀j' x',args[j']? =some x'→aD x' (cargs.getD j' undef) b→j'=j
theorem Ll (R:Rel G L s μ a.tmps w){h:OpHint}{l:List Operand}(hd:ff l=true){caps:List LV}{vs:List Value}(hc:bR G w L s.lam.length caps vs):
  ArgsR G w L s a.tmps h.take (l.map (evA h s.fr)++caps) (l.map a.eval++vs).toArray:=by
 obtain⟨hcl,hcg⟩:=oX hc
 have hgl: ∀j x,(l.map (evA h s.fr)++caps)[j]? =some x→(j<l.length∧ ∃y,l[j]? =some y∧x=evA h s.fr y∧(l.map a.eval++vs).toArray.getD j undef=a.eval y)∨
   (LVR G w L s.lam.length x ((l.map a.eval++vs).toArray.getD j undef)∧ ∀xs,x≠ .osl xs):=by
  intro j x hx
  by_cases hj:j<l.length
  ·left
   rw[List.getElem?_append_left (by simpa using hj)]at hx
   simp only[List.getElem?_map,Option.map_eq_some_iff]at hx
   obtain⟨y,hy,rfl⟩:=hx
   refine⟨hj,y,hy,rfl,?_⟩
   simp only[Array.getD_eq_getD_getElem?,List.getElem?_toArray]
   rw[List.getElem?_append_left (by simpa using hj)]
   simp[hy]
  ·right
   rw[List.getElem?_append_right (by simp;omega)]at hx
   obtain⟨v,hv,h1,h2⟩:=hcg _ x hx
   refine⟨?_,h2⟩
   simp only[Array.getD_eq_getD_getElem?,List.getElem?_toArray]
   rw[List.getElem?_append_right (by simp;omega)]
   simp only[List.length_map]at hv ⊢
   rw[hv];exact h1
 refine⟨by simp[hcl],fun j x hx=> ?_,fun j x b hx ho=> ?_⟩
 ·rcases hgl j x hx with⟨_,y,_,rfl,e⟩|⟨h1,_⟩
  ·rw[e];exact(a8 R h y).1
  ·exact h1
 ·rcases hgl j x hx with⟨_,y,hy,rfl,e⟩|⟨_,h2⟩
  ·rw[e]at ho
   obtain⟨t,rfl,ht,hot⟩:=xK (a:=a) ho
   refine⟨⟨t,ht,hot⟩,fun j' x' hx' ho'=> ?_⟩
   rcases hgl j' x' hx' with⟨_,y',hy',rfl,e'⟩|⟨_,h2⟩
   ·rw[e']at ho'
    obtain⟨t',rfl,ht',hot'⟩:=xK (a:=a) ho'
    have:=R.own (.fr t) (.fr t') b hot hot'
    injection this with this
    subst this
    exact qh hd hy' hy
   ·exact absurd ho' (mr h2)
  ·exact absurd ho (mr h2)
theorem Lp {f:FuncId}{args:List LV}{cargs:Array Value}(R:Rel G L s μ a.tmps w)(hd: ∀d,o.dst=some d→d<a.tmps.size)(hk:KOK L G w s μ a o.dst k r K)(hpk:POK L G w s μ a p r Q)
  (hrho: ∀f args μ out,ρ.call f args μ=some out→cD P W0 f args μ out) (hkn:Kn W0 w (ax G w s μ a.tmps)) (hp:s.pushed=false) (hpl:fk args=true) (A:ArgsR G w L s a.tmps h.take args cargs)
  (hrun:(∃fn c,P.funcs[f]? =some fn∧fn.body=some c∧(fn.name == "runtime.NumGoroutine")=false)→(execOp a.eval o).run P w= .ok (.enter f cargs) w)
  (hop:callK (ρ.call f args μ) (fun v μ=>dv P h.own o.type v fun v=>k v (ac h.take s) μ) (fun v μ=>p v (ac h.take s) μ)=some r):o.wp P a w K Q:=by
 obtain⟨out,hout,hop⟩:=ab.1 hop
 obtain⟨hfn,hM⟩:=hrho _ _ _ _ hout
 have hμ:=R.lev
 obtain⟨R1,E1,hO⟩:=dx R h.take
 have hl:=aT h.take s
 obtain⟨Re,hown,hlive⟩:=R.enterU (tm:=a.tmps) (args:=args) (cargs:=cargs) hp (fun j x hx=>⟨qm hpl hx,A.val j x hx⟩) (fun j x b hx ho=>⟨(A.own j x b hx ho).1.imp fun t h=>h.2,(A.own j x b hx ho).2⟩)
 have hT: ∀b,ax G w (aM args) μ cargs b→(∀t,¬aD ((ac h.take s).fr t) (a.tmps.getD t undef) b)∧(∀i k,¬aw G w (ac h.take s).fr a.tmps (μ++[(ac h.take s).lam]) (.ob L i k) b)∧ ∀i,aK (aG (ac h.take s).lam i)→G.β L i≠b:=by
  have eL: ∀i,aC (μ++[s.lam]) L i=aG s.lam i:=fun i=>by rw[←hμ];exact bY
  rintro b (⟨l,hb⟩|⟨lev,i,hb,rfl⟩)
  ·rcases hown l b hb with⟨j,x,rfl,hx,ho⟩|⟨lev,i,k,rfl,hlt,ho⟩
   ·obtain⟨⟨u,hu,hou⟩,_⟩:=A.own j x b hx ho
    refine⟨fun t ht=> ?_,fun i k hik=> ?_,fun i hi=> ?_⟩
    ·obtain⟨a1,a2⟩:=hO (.fr t) b ht
     exact a1 u hu (R.own _ (.fr u) b a2 hou)
    ·obtain⟨a1,a2⟩:=hO _ b hik
     exact a1 u hu (R.own _ (.fr u) b a2 hou)
    ·rw[hl.1]at hi
     exact R.apart (.fr u) b L i hou (by rw[eL];exact hi)
   ·refine⟨fun t ht=> ?_,fun i' k' hik=> ?_,fun i' hi=> ?_⟩
    ·have:=R.own _ _ b (hO (.fr t) b ht).2 ho
     cases this
    ·have:=R.own _ _ b (hO _ b hik).2 ho
     injection this with h1 h2 h3
     omega
    ·rw[hl.1]at hi
     exact R.apart _ b L i' ho (by rw[eL];exact hi)
  ·obtain⟨hlt,hl2⟩:=hlive lev i hb
   refine⟨fun t ht=>R.apart _ _ lev i (hO (.fr t) _ ht).2 hl2 rfl,fun i' k' hik=>R.apart _ _ lev i (hO _ _ hik).2 hl2 rfl,fun i' hi e=> ?_⟩
   rw[hl.1]at hi
   have:=(R.inj L i' lev i (by rw[eL];exact hi) hl2 e).1
   omega
 have hT0: ∀b,ax G w (aM args) μ cargs b→ax G w s μ a.tmps b:=by
  rintro b (⟨l,hb⟩|⟨lev,i,hb,rfl⟩)
  ·rcases hown l b hb with⟨j,x,rfl,hx,ho⟩|⟨lev,i,k,rfl,hlt,ho⟩
   ·obtain⟨⟨u,hu,hou⟩,_⟩:=A.own j x b hx ho
    exact .inl ⟨.fr u,hou⟩
   ·exact .inl ⟨_,ho⟩
  ·exact .inr ⟨lev,i,(hlive lev i hb).2,rfl⟩
 have hcall:=hM G w cargs A.size (by rw[hμ];exact Re) (hkn.mono hT0)
 rw[hμ]at hcall
 unfold Oper.wp
 rw[hrun hfn,Oper.upon_enter]
 refine hcall.mono fun e w' hR=> ?_
 have merge: ∀{O':Nat→Nat} {sr:S} {μ':Mu} {tmr:Array Value},sr.lam=[]→Rel (G.withO O') L sr μ' tmr w'→Ext L (ax G w (aM args) μ cargs) G w (G.withO O') w' (ax (G.withO O') w' sr μ' tmr)→
   Rel (G.withO O') L (ac h.take s) μ' a.tmps w'∧Ext L (ax G w s μ a.tmps) G w (G.withO O') w' (ax (G.withO O') w' (ac h.take s) μ' a.tmps)∧
   (∀b,ax (G.withO O') w' sr μ' tmr b→(ax G w s μ a.tmps b∨w.heap.size≤b))∧
   (∀ t b, aw (G.withO O') w' sr.fr tmr (μ' ++ [sr.lam]) (.fr t) b → (∀ l, ¬ aw (G.withO O') w' (ac h.take s).fr a.tmps (μ' ++ [(ac h.take s).lam]) l b) ∧
    ∀lev i,aK (aC (μ'++[(ac h.take s).lam]) lev i)→(G.withO O').β lev i≠b):=by
  intro O' sr μ' tmr hlam Rc E
  obtain⟨R2,h2,h3⟩:=R1.mergeU (by rw[hl.2];exact hp) hT hlam Rc E
  have hin: ∀b,ax (G.withO O') w' sr μ' tmr b→(ax G w s μ a.tmps b∨w.heap.size≤b):=fun b hb=>(E.grow b hb).imp (hT0 b) id
  refine⟨R2,⟨E.le,E.os,E.tape,E.output,E.size,fun b hb hn=>E.keep b hb fun hh=>hn (hT0 b hh),fun b hb=> ?_,E.lev⟩,hin,fun t b hb=>⟨fun l hl'=> ?_,fun lev i hli e=> ?_⟩⟩
  ·rcases hb with⟨l,hb⟩|⟨lev,i,hb,rfl⟩
   ·rcases h2 l b hb with⟨_,_,h4⟩|⟨_,h4⟩
    ·exact .inl (.inl ⟨l,(hO l b h4).2⟩)
    ·exact hin b (.inl ⟨l,h4⟩)
   ·rcases h3 lev i hb with⟨_,_,_,h4⟩|h4
    ·rw[hl.1]at h4
     exact .inl (.inr ⟨lev,i,h4,rfl⟩)
    ·exact hin _ (.inr ⟨lev,i,h4,rfl⟩)
  ·rcases h2 l b hl' with⟨h4,h5,_⟩|⟨⟨_,_,_,rfl⟩,h4⟩
   ·rcases E.grow b (.inl ⟨_,hb⟩)with hh|hh
    ·exact h5 hh
    ·omega
   ·have:=Rc.own _ _ b hb h4
    cases this
  ·rcases h3 lev i hli with⟨h4,h5,_,_⟩|h4
   ·have e':G.β lev i=b:=e
    rw[e']at h4 h5
    rcases E.grow b (.inl ⟨_,hb⟩)with hh|hh
    ·exact h5 hh
    ·omega
   ·exact Rc.apart _ b lev i hb h4 e
 cases out with
 |ret v μ'=>
  cases e with
  |returned cv=>
   simp only[eX]at hR
   obtain⟨O',Rc,E⟩:=hR
   obtain⟨R2,E2,hin,hfr⟩:=merge rfl Rc E
   obtain⟨y,hy,hyr⟩:=ek hop
   have hv:LVR (G.withO O') w' L 0 v cv:=by
    have:=Rc.fr 0
    simp only[cu,List.getElem?_cons_zero,Option.getD_some]at this
    simpa[aM]using this
   have hv2:LVR (G.withO O') w' L (ac h.take s).lam.length v cv:=df (Le.refl _ _) (Nat.zero_le _) (fun _ _=>⟨rfl,rfl⟩) v cv (fun _ _=>⟨rfl,rfl⟩) hv
   obtain⟨hy1,hy2⟩:=hyr (G.withO O') w' L _ cv hv2
   obtain ⟨R3, E3⟩ := cN (dst := o.dst) (v := y) (cv := cv) R2 E2 hy1 (fun b hb => by
    have hat:aw (G.withO O') w' (aM [v]).fr #[cv] (μ'++[(aM [v]).lam]) (.fr 0) b:=by
     have:=hy2 b hb
     simpa[aw,cu]using this
    exact⟨(hfr 0 b hat).1,(hfr 0 b hat).2,hin b (.inl ⟨_,hat⟩)⟩) hd
   exact hk y _ μ' cv w' _ hy R3 E3
  |panicked ch=>simp[eX]at hR
  |outgrown=>simp[eX]at hR
 |panic v μ'=>
  cases e with
  |returned cv=>simp[eX]at hR
  |panicked ch=>
   simp only[eX]at hR
   obtain⟨O',pv,rfl,hv,Rc,E⟩:=hR
   obtain⟨R2,E2,_,_⟩:=merge rfl Rc E
   exact hpk v _ μ' pv w' _ hop R2 hv E2
  |outgrown=>simp[eX]at hR
end
end Go.Abs
set_option linter.unusedVariables false
set_option linter.unusedSimpArgs false
namespace Go.Abs
open Go
def Gh.push (G:Gh)(L n:Nat):Gh:={G with n:=fun x=>if x=L then n else G.n x}
section
variable {G G3:Gh}{w w':World}{L:Nat}{μ μ':Mu}
theorem qr {nl:Nat}{x:LV}{v:Value}{c:CV}(hle:Le G w G3 w)(hβ: ∀i,i<nl→i<G3.n L∧G3.β L i=G.β L i∧G3.sz L i=G.sz L i)(h:LVR G w L nl x v)(hc:nG L x=some c):VR G3 w c v:=by
 cases x<;>simp only[nG,Option.some.injEq,reduceCtorEq]at hc<;>subst hc<;>simp only[LVR]at h
 ·exact bk hle _ _ h
 ·exact bk hle _ _ (fV h)
 ·simp only[VR]
  obtain⟨h1,h2⟩:=h
  exact⟨(hβ _ h1).1,by rw[(hβ _ h1).2.1];exact h2⟩
 ·simp only[VR]
  obtain⟨h1,cap,cur,e,fz,h2,h3,_,h4,h5⟩:=h
  obtain⟨k1,k2,k3⟩:=hβ _ h1
  exact⟨k1,cap,cur,e,fz,by rw[k2];exact h2,h3,by rw[k2];exact h4,by rw[k3];exact h5⟩
 ·simp only[VR]
  obtain⟨h1,h2⟩:=h
  exact⟨(hβ _ h1).1,by rw[(hβ _ h1).2.1];exact h2⟩
 ·simp only[VR]
  obtain⟨h1,h2⟩:=h
  exact⟨(hβ _ h1).1,by rw[(hβ _ h1).2.1];exact h2⟩
theorem oN {nl:Nat}: ∀{xs:List LV} {vs:List Value} {cs:List CV} (hle:Le G w G3 w) (hβ: ∀i,i<nl→i<G3.n L∧G3.β L i=G.β L i∧G3.sz L i=G.sz L i) (h:bR G w L nl xs vs) (hc:jY L xs=some cs),VRL G3 w cs vs
 |[],vs,cs,hle,hβ,h,hc=>by
  simp only[jY,Option.some.injEq]at hc
  subst hc
  simp only[bR]at h
  simpa[VRL]using h
 |x::xs,vs,cs,hle,hβ,h,hc=>by
  simp only[jY]at hc
  obtain⟨c,h1,hc⟩:=ab.1 hc
  obtain⟨r,h2,hc⟩:=ab.1 hc
  simp only[Option.some.injEq]at hc
  subst hc
  simp only[bR]at h
  obtain⟨v,vr,e,_,h3,h4⟩:=h
  simp only[VRL]
  exact⟨v,vr,e,qr hle hβ h3 h1,oN hle hβ h4 h2⟩
theorem kO {nl L' nl':Nat}{x y:LV}{v:Value}(hle:Le G w G3 w)(hO:G3.O=G.O)(hβ: ∀i,i<nl→i<G3.n L∧G3.β L i=G.β L i∧G3.sz L i=G.sz L i)(h:LVR G w L nl x v)(hy:sO L x=some y):
  LVR G3 w L' nl' y v∧ ∀b,aD y v b↔aD x v b:=by
 unfold sO at hy
 split at hy
 ·simp only[Option.some.injEq]at hy
  subst hy
  exact⟨by simp only[LVR]at h ⊢; exact jw hle (fun _ _ _ _=>⟨rfl,by rw[hO]⟩) h,fun b=>Iff.rfl⟩
 ·obtain⟨cs,h1,hy⟩:=ab.1 hy
  simp only[Option.some.injEq]at hy
  subst hy
  simp only[LVR,VR]at h ⊢
  obtain⟨vs,e,hl⟩:=h
  exact⟨⟨vs,e,oN hle hβ hl h1⟩,fun b=>by simp[aD]⟩
 ·obtain⟨c,h1,hy⟩:=ab.1 hy
  simp only[Option.some.injEq]at hy
  subst hy
  refine⟨by simp only[LVR];exact qr hle hβ h h1,fun b=> ?_⟩
  rename_i n1 n2
  cases x<;>first|exact(n1 _ rfl).elim|simp[aD]
theorem fL: ∀{xs ys:List LV},fw L xs=some ys→ys.length=xs.length∧ ∀(j:Nat) y,ys[j]? =some y→ ∃x,xs[j]? =some x∧sO L x=some y
 |[],ys,h=>by simp only[fw,Option.some.injEq]at h;subst h;exact⟨rfl,fun j y hy=>by simp at hy⟩
 |x::xs,ys,h=>by
  simp only[fw]at h
  obtain⟨y,h1,h⟩:=ab.1 h
  obtain⟨r,h2,h⟩:=ab.1 h
  simp only[Option.some.injEq]at h
  subst h
  obtain⟨h3,h4⟩:=fL h2
  refine⟨by simp[h3],fun j z hz=> ?_⟩
  cases j with
  |zero=>simp only[List.getElem?_cons_zero,Option.some.injEq]at hz;subst hz;exact⟨x,rfl,h1⟩
  |succ j=>exact h4 j z (by simpa using hz)
inductive ObOuter (L:Nat):Ob→Ob→Prop where
 |dead:ObOuter L .dead .dead
 |arr {sz cs}:ObOuter L (.arr sz cs) (.arr sz cs)
 |map {ks vs}:ObOuter L (.map ks vs) (.map ks vs)
 |cells {cs ds}:fw L cs=some ds→ObOuter L (.cells cs) (.cells ds)
theorem gY: ∀{l l':Lam},dM L l=some l'→l'.length=l.length∧ ∀i,ObOuter L (aG l i) (aG l' i)
 |[],l',h=>by simp only[dM,Option.some.injEq]at h;subst h;exact⟨rfl,fun i=>by simp only[aG,List.getElem?_nil];exact .dead⟩
 | .dead::l,l',h=>by
  simp only[dM]at h
  obtain⟨r,h1,h⟩:=ab.1 h
  simp only[Option.some.injEq]at h
  subst h
  obtain⟨h2,h3⟩:=gY h1
  refine⟨by simp[h2],fun i=> ?_⟩
  cases i with
  |zero=>exact .dead
  |succ i=>exact h3 i
 | .arr sz cs::l,l',h=>by
  simp only[dM]at h
  obtain⟨r,h1,h⟩:=ab.1 h
  simp only[Option.some.injEq]at h
  subst h
  obtain⟨h2,h3⟩:=gY h1
  refine⟨by simp[h2],fun i=> ?_⟩
  cases i with
  |zero=>exact .arr
  |succ i=>exact h3 i
 | .map ks vs::l,l',h=>by
  simp only[dM]at h
  obtain⟨r,h1,h⟩:=ab.1 h
  simp only[Option.some.injEq]at h
  subst h
  obtain⟨h2,h3⟩:=gY h1
  refine⟨by simp[h2],fun i=> ?_⟩
  cases i with
  |zero=>exact .map
  |succ i=>exact h3 i
 | .cells cs::l,l',h=>by
  simp only[dM]at h
  obtain⟨ds,h0,h⟩:=ab.1 h
  obtain⟨r,h1,h⟩:=ab.1 h
  simp only[Option.some.injEq]at h
  subst h
  obtain⟨h2,h3⟩:=gY h1
  refine⟨by simp[h2],fun i=> ?_⟩
  cases i with
  |zero=>exact .cells h0
  |succ i=>exact h3 i
theorem ObOuter.live {o o':Ob}(h:ObOuter L o o'):aK o'↔aK o:=by cases h<;>exact Iff.rfl
theorem j1 {nl:Nat}(hn: ∀i,i<G.n L→i<nl):Le G w (G.push L nl) w:=by
 refine⟨fun _ _ _ h hb=>⟨h,hb⟩,fun lev i h=>⟨?_,rfl,rfl⟩,fun _ _ _ h hc=>⟨h,hc⟩,fun b cur e fz h=>⟨cur,fz,h,rfl⟩⟩
 simp only[Gh.push]
 split
 ·rename_i e;subst e;exact hn i h
 ·exact h
mutual
theorem tK {L' nl':Nat}: ∀(x:LV) (v:Value),LVR G w L 0 x v→LVR G w L' nl' x v
 | .cv c,v,h=>by simpa[LVR]using h
 | .osl xs,v,h=>by simpa[LVR]using h
 | .loc i off,v,h=>by simp only[LVR]at h;omega
 | .lsl i off len,v,h=>by simp only[LVR]at h;omega
 | .mloc i,v,h=>by simp only[LVR]at h;omega
 | .tloc i t n,v,h=>by simp only[LVR]at h;omega
 | .lclo f caps,v,h=>by
  simp only[LVR]at h ⊢
  obtain⟨vs,e,hl⟩:=h
  exact⟨vs,e,qy caps _ hl⟩
 | .ltup xs,v,h=>by
  simp only[LVR]at h ⊢
  obtain⟨vs,e,hl⟩:=h
  exact⟨vs,e,qy xs _ hl⟩
theorem qy {L' nl':Nat}: ∀(xs:List LV) (vs:List Value),bR G w L 0 xs vs→bR G w L' nl' xs vs
 |[],vs,h=>by simpa[bR]using h
 |x::xs,vs,h=>by
  simp only[bR]at h ⊢
  obtain⟨v,r,e,h0,h1,h2⟩:=h
  exact⟨v,r,e,h0,tK x v h1,qy xs r h2⟩
end
theorem Rel.enterP {s:S}{tm cargs:Array Value}{args args':List LV}{l:Lam}{ts:List Nat}(R:Rel G L s μ tm w)(A:ArgsR G w L s tm ts args cargs)(ha:fw L args=some args')(hl:dM L s.lam=some l):
  Rel (G.push L s.lam.length) (L+1) (aM args') (μ++[l]) cargs w∧
  (∀q b,aw (G.push L s.lam.length) w (aM args').fr cargs ((μ++[l])++[(aM args').lam]) q b→(∃j x,q= .fr j∧args[j]? =some x∧aD x (cargs.getD j undef) b)∨(∃lev i k,q= .ob lev i k∧aw G w s.fr tm (μ++[s.lam]) q b))∧
  (∀lev i,aK (aC ((μ++[l])++[(aM args').lam]) lev i)→aK (aC (μ++[s.lam]) lev i)):=by
 have hμ:=R.lev
 obtain⟨hll,hlg⟩:=gY hl
 obtain⟨hal,hag⟩:=fL ha
 have hnL: ∀i,i<G.n L→i<s.lam.length:=fun i hi=>by
  have:=R.nL
  split at this<;>omega
 have hle:Le G w (G.push L s.lam.length) w:=j1 hnL
 have hleB:Le G w ((G.push L s.lam.length).below L) w:=by
  refine⟨fun _ _ _ h hb=>⟨h,hb⟩,fun lev i h=>⟨?_,rfl,rfl⟩,fun _ _ _ h hc=>⟨h,hc⟩,fun b cur e fz h=>⟨cur,fz,h,rfl⟩⟩
  have hlv:lev≤L:=by
   by_cases hh:lev≤L
   ·exact hh
   ·have:=R.ngt lev (by omega);omega
  simp only[Gh.below,if_pos hlv,Gh.push]
  split
  ·rename_i e;subst e;exact hnL i h
  ·exact h
 have hnB: ∀i,i<s.lam.length→i<(G.push L s.lam.length).n L∧(G.push L s.lam.length).β L i=G.β L i∧(G.push L s.lam.length).sz L i=G.sz L i:=fun i hi=>⟨by simp only[Gh.push,if_true];exact hi,rfl,rfl⟩
 have hnB2: ∀i,i<s.lam.length→i<((G.push L s.lam.length).below L).n L∧((G.push L s.lam.length).below L).β L i=G.β L i∧((G.push L s.lam.length).below L).sz L i=G.sz L i:=fun i hi=>⟨by simp only[Gh.below,Nat.le_refl,Gh.push,if_true];exact hi,rfl,rfl⟩
 have eL: ∀i,aC (μ++[s.lam]) L i=aG s.lam i:=fun i=>by rw[←hμ];exact bY
 have eL2: ∀i,bb (μ++[l]) L i=aG l i:=fun i=>by rw[←hμ];exact bY
 have eO: ∀lev i,aK (aC ((μ++[l])++[(aM args').lam]) lev i)→(lev<L∧aC ((μ++[l])++[(aM args').lam]) lev i=aC (μ++[s.lam]) lev i)∨(lev=L∧aC ((μ++[l])++[(aM args').lam]) lev i=aG l i):=by
  intro lev i h
  obtain⟨h1,h2⟩:=km h
  simp only[List.length_append,List.length_cons,List.length_nil]at h1
  by_cases hlt:lev<L
  ·refine .inl ⟨hlt,?_⟩
   rw[show aC ((μ++[l])++[(aM args').lam]) lev i=bb (μ++[l]) lev i from h2,bC (by omega),aC,bC (by omega)]
  ·have:lev=L:=by omega
   subst this
   exact .inr ⟨rfl,by rw[show aC ((μ++[l])++[(aM args').lam]) lev i=bb (μ++[l]) lev i from h2,eL2]⟩
 have hlive: ∀lev i,aK (aC ((μ++[l])++[(aM args').lam]) lev i)→aK (aC (μ++[s.lam]) lev i):=by
  intro lev i h
  rcases eO lev i h with⟨_,e⟩|⟨rfl,e⟩
  ·rw[←e];exact h
  ·rw[eL];rw[e]at h;exact(hlg i).live.1 h
 have hown: ∀q b,aw (G.push L s.lam.length) w (aM args').fr cargs ((μ++[l])++[(aM args').lam]) q b→(∃j x,q= .fr j∧args[j]? =some x∧aD x (cargs.getD j undef) b)∨(∃lev i k,q= .ob lev i k∧aw G w s.fr tm (μ++[s.lam]) q b):=by
  intro q b h
  cases q with
  |fr t=>
   simp only[aw,cu]at h
   cases hx:args'[t]? with
   |none=>rw[hx]at h;simp[aD]at h
   |some y=>
    rw[hx]at h
    obtain⟨x,hx2,hxy⟩:=hag t y hx
    exact .inl ⟨t,x,rfl,hx2,((kO (L':=L) (nl':=0) hle rfl hnB (A.val t x hx2) hxy).2 b).1 h⟩
  |ob lev i k=>
   have hl':=fu h
   refine .inr ⟨lev,i,k,rfl,?_⟩
   rcases eO lev i hl' with⟨_,e⟩|⟨rfl,e⟩
   ·exact gZ (fr':=(aM args').fr) (tm':=cargs) e rfl rfl h
   ·simp only[aw,e]at h
    split at h<;>try(exact h.elim)
    rename_i ds hds
    split at h<;>try(exact h.elim)
    rename_i y hy
    obtain⟨cur,e',fz,hb,ho⟩:=h
    have hoo:=hlg i
    rw[hds]at hoo
    generalize hq:aG s.lam i=q at hoo
    cases hoo with
    |cells hto=>
     rename_i cs
     obtain⟨_,hg⟩:=fL hto
     obtain⟨x,hx,hxy⟩:=hg k y hy
     have hob:=R.lam i
     rw[hq]at hob
     simp only[ObR]at hob
     obtain⟨cur2,e2,fz2,hb2,_,_,_,hr⟩:=hob
     have hb':w.heap[G.β lev i]? =some (.cells cur e' fz):=hb
     rw[hb2]at hb'
     obtain⟨rfl,rfl,rfl⟩:=(Obj.cells.injEq ..).mp (Option.some.inj hb')
     simp only[aw,eL,hq,hx]
     exact⟨cur2,e2,fz2,hb2,((kO (L':=lev) (nl':=0) hle rfl hnB (hr k x hx) hxy).2 b).1 ho⟩
 refine⟨⟨by simp[hμ],fun t=> ?_,fun i=> ?_,fun lev i hlt=> ?_,fun lev i lev' i' h h' e=>R.inj lev i lev' i' (hlive lev i h) (hlive lev' i' h') e,fun q q' b h h'=> ?_,fun q b lev i h h' e=> ?_,fun lev hlt=> ?_,?_,fun lev hlt=> ?_⟩,hown,hlive⟩
 ·rw[cu]
  cases hx:args'[t]? with
  |none=>simp[LVR,VR]
  |some y=>
   obtain⟨x,hx2,hxy⟩:=hag t y hx
   exact(kO hle rfl hnB (A.val t x hx2) hxy).1
 ·have:aG (aM args').lam i= .dead:=by simp[aM,aG]
  rw[this];trivial
 ·by_cases h1:lev<L
  ·have e1:bb (μ++[l]) lev i=bb μ lev i:=bC (by omega)
   rw[e1]
   have hle2:Le (G.below lev) w ((G.push L s.lam.length).below lev) w:=hle.below lev
   exact cU hle2 (Nat.le_refl _) (fun _ h=>by omega) (fun _=>⟨rfl,rfl⟩) (fun _ _ _ _ _ _ _ _ _ _ _=>⟨rfl,rfl⟩) (R.mu lev i h1)
  ·have:lev=L:=by omega
   subst this
   rw[eL2]
   have hoo:=hlg i
   have hob:=R.lam i
   revert hob hoo
   generalize aG s.lam i=q
   generalize aG l i=q'
   intro hoo hob
   cases hoo with
   |dead=>trivial
   |arr=>
    simp only[ObR]at hob ⊢
    obtain⟨hk,cur,e,fz,h1,h2,h3,h4,h5⟩:=hob
    exact⟨hk,cur,e,fz,h1,h2,h3,h4,fun j x hx=>bk hleB x _ (h5 j x hx)⟩
   |map=>
    simp only[ObR]at hob ⊢
    obtain⟨es,clk,h1,h2,h3⟩:=hob
    exact⟨es,clk,h1,h2,kT hleB h3⟩
   |cells hto=>
    obtain⟨hln,hg⟩:=fL hto
    simp only[ObR]at hob ⊢
    obtain⟨cur,e,fz,h1,h2,h3,h4,h5⟩:=hob
    refine⟨cur,e,fz,h1,h2,h3,by rw[hln];exact h4,fun j y hy=> ?_⟩
    obtain⟨x,hx,hxy⟩:=hg j y hy
    exact(kO hleB rfl hnB2 (h5 j x hx) hxy).1
 ·rcases hown q b h with⟨j,x,rfl,hx,hox⟩|⟨lev,i,k,rfl,h1⟩<;>rcases hown q' b h' with⟨j',x',rfl,hx',hox'⟩|⟨lev',i',k',rfl,h1'⟩
  ·rw[(A.own j x b hx hox).2 j' x' hx' hox']
  ·obtain⟨t,_,ht⟩:=(A.own j x b hx hox).1
   exact absurd (R.own (.fr t) _ b ht h1') (by simp)
  ·obtain⟨t,_,ht⟩:=(A.own j' x' b hx' hox').1
   exact absurd (R.own (.fr t) _ b ht h1) (by simp)
  ·exact R.own _ _ b h1 h1'
 ·rcases hown q b h with⟨j,x,rfl,hx,hox⟩|⟨lev',i',k,rfl,h1⟩
  ·obtain⟨t,_,ht⟩:=(A.own j x b hx hox).1
   exact R.apart (.fr t) b lev i ht (hlive lev i h') e
  ·exact R.apart _ b lev i h1 (hlive lev i h') e
 ·by_cases h1:lev<L
  ·have:(G.push L s.lam.length).n lev=G.n lev:=by simp only[Gh.push];rw[if_neg (by omega)]
   rw[this,R.nlt lev h1]
   simp only[List.getD_eq_getElem?_getD,List.getElem?_append_left (show lev<μ.length by omega)]
  ·have:lev=L:=by omega
   subst this
   subst hμ
   simp[Gh.push,hll]
 ·have h1:=R.ngt (L+1) (by omega)
  have:(G.push L s.lam.length).n (L+1)=G.n (L+1):=by simp only[Gh.push];rw[if_neg (by omega)]
  simp only[aM,Bool.false_eq_true,if_false]
  rw[this,h1]
 ·have:(G.push L s.lam.length).n lev=G.n lev:=by simp only[Gh.push];rw[if_neg (by omega)]
  rw[this];exact R.ngt lev (by omega)
theorem Rel.mergeP {s sr:S}{tm tmr:Array Value}{T:Nat→Prop}{O':Nat→Nat}{l':Lam}(R:Rel G L s μ tm w)
  (hT: ∀b,T b→ ∀t,¬aD (s.fr t) (tm.getD t undef) b)
  (hlam:sr.lam=[]) (Rc:Rel ((G.push L s.lam.length).withO O') (L+1) sr (μ'++[l']) tmr w') (E:Ext (L+1) T (G.push L s.lam.length) w ((G.push L s.lam.length).withO O') w' (ax ((G.push L s.lam.length).withO O') w' sr (μ'++[l']) tmr)):
  Rel ((G.push L s.lam.length).withO O') L {s with lam:=l',pushed:=true} μ' tm w'∧
  (∀q b,aw ((G.push L s.lam.length).withO O') w' s.fr tm (μ'++[l']) q b→(b<w.heap.size∧ ¬T b∧aw G w s.fr tm (μ++[s.lam]) q b)∨((∃lev i k,q= .ob lev i k)∧aw ((G.push L s.lam.length).withO O') w' sr.fr tmr ((μ'++[l'])++[sr.lam]) q b))∧
  (∀lev i,aK (aC (μ'++[l']) lev i)→aK (aC ((μ'++[l'])++[sr.lam]) lev i)):=by
 have hμ':μ'.length=L:=by have:=Rc.lev;simp at this;omega
 have hnL: ∀i,i<G.n L→i<s.lam.length:=fun i hi=>by
  have:=R.nL
  split at this<;>omega
 have hle0:Le G w (G.push L s.lam.length) w:=j1 hnL
 have hle:=hle0.trans E.le
 have hlen:s.lam.length=l'.length:=by
  have:=Rc.nlt L (by omega)
  simp only[Gh.withO,Gh.push,if_true,List.getD_eq_getElem?_getD]at this
  rw[List.getElem?_append_right (by omega)]at this
  simpa[hμ']using this
 have hfrT: ∀t b,aD (s.fr t) (tm.getD t undef) b→b<w.heap.size∧ ¬T b:=fun t b hb=>⟨R.touch_lt (.inl ⟨.fr t,hb⟩),fun h=>hT b h t hb⟩
 have hkeep: ∀b,b<w.heap.size→ ¬T b→w'.heap[b]? =w.heap[b]? ∧((G.push L s.lam.length).withO O').O b=G.O b:=fun b hb hn=>E.keep b hb hn
 have eO: ∀lev i,aK (aC (μ'++[l']) lev i)→aC ((μ'++[l'])++[sr.lam]) lev i=aC (μ'++[l']) lev i:=by
  intro lev i h
  have:lev<(μ'++[l']).length:=by
   by_cases hh:lev<(μ'++[l']).length
   ·exact hh
   ·simp only[aC,bb]at h
    rw[List.getElem?_eq_none (by omega)]at h
    exact h.elim
  exact bC this
 have hlive: ∀lev i,aK (aC (μ'++[l']) lev i)→aK (aC ((μ'++[l'])++[sr.lam]) lev i):=fun lev i h=>by rw[eO lev i h];exact h
 have hown: ∀q b,aw ((G.push L s.lam.length).withO O') w' s.fr tm (μ'++[l']) q b→(b<w.heap.size∧ ¬T b∧aw G w s.fr tm (μ++[s.lam]) q b)∨((∃lev i k,q= .ob lev i k)∧aw ((G.push L s.lam.length).withO O') w' sr.fr tmr ((μ'++[l'])++[sr.lam]) q b):=by
  intro q b h
  cases q with
  |fr t=>exact .inl ⟨(hfrT t b h).1,(hfrT t b h).2,h⟩
  |ob lev i k=>exact .inr ⟨⟨_,_,_,rfl⟩,gZ (fr':=s.fr) (tm':=tm) (eO lev i (fu h)).symm rfl rfl h⟩
 have hTr:=E.grow
 refine⟨⟨hμ',fun t=> ?_,fun i=> ?_,fun lev i hlt=> ?_,fun lev i lev' i' h h' e=>Rc.inj lev i lev' i' (hlive lev i h) (hlive lev' i' h') e,fun q q' b h h'=> ?_,fun q b lev i h h' e=> ?_,fun lev hlt=> ?_,?_,fun lev hlt=> ?_⟩,hown,hlive⟩
 ·exact df hle (by simp only;omega) (fun _ _=>⟨rfl,rfl⟩) _ _ (fun b hb=>hkeep b (hfrT t b hb).1 (hfrT t b hb).2) (R.fr t)
 ·have h1:=Rc.mu L i (by omega)
  have e1:bb (μ'++[l']) L i=aG l' i:=by rw[←hμ'];exact bY
  rw[e1]at h1
  revert h1
  generalize aG l' i=q
  intro h1
  cases q with
  |dead=>trivial
  |cells cs=>
   simp only[ObR]at h1 ⊢
   obtain⟨cur,e,fz,a1,a2,a3,a4,a5⟩:=h1
   exact⟨cur,e,fz,a1,a2,a3,a4,fun j x hx=>m7 x _ (a5 j x hx)⟩
  |arr kk cs=>
   simp only[ObR]at h1 ⊢
   obtain⟨hk,cur,e,fz,a1,a2,a3,a4,a5⟩:=h1
   exact⟨hk,cur,e,fz,a1,a2,a3,a4,fun j x hx=>bk (mn _ _ _) x _ (a5 j x hx)⟩
  |map ks vs=>
   simp only[ObR]at h1 ⊢
   obtain⟨es,clk,a1,a2,a3⟩:=h1
   exact⟨es,clk,a1,a2,kT (mn _ _ _) a3⟩
 ·have h1:=Rc.mu lev i (by omega)
  have e1:bb (μ'++[l']) lev i=bb μ' lev i:=bC (by omega)
  rw[e1]at h1
  exact h1
 ·rcases hown q b h with⟨h1,h2,h3⟩|⟨⟨_,_,_,rfl⟩,h3⟩<;>rcases hown q' b h' with⟨h1',h2',h3'⟩|⟨⟨_,_,_,rfl⟩,h3'⟩
  ·exact R.own q q' b h3 h3'
  ·exfalso
   rcases hTr b (.inl ⟨_,h3'⟩)with hh|hh
   ·exact h2 hh
   ·omega
  ·exfalso
   rcases hTr b (.inl ⟨_,h3⟩)with hh|hh
   ·exact h2' hh
   ·omega
  ·exact Rc.own _ _ b h3 h3'
 ·have h3':=hlive lev i h'
  rcases hown q b h with⟨h1,h2,h3⟩|⟨⟨_,_,_,rfl⟩,h3⟩
  ·rcases hTr b (.inr ⟨lev,i,h3',e⟩)with hh|hh
   ·exact h2 hh
   ·omega
  ·exact Rc.apart _ b lev i h3 h3' e
 ·have h1:=Rc.nlt lev (by omega)
  rw[h1]
  simp only[List.getD_eq_getElem?_getD,List.getElem?_append_left (show lev<μ'.length by omega)]
 ·simp only[if_true]
  simp only[Gh.withO,Gh.push,if_true]
  exact hlen
 ·simp only[Gh.withO,Gh.push]
  rw[if_neg (by omega)]
  exact R.ngt lev hlt
end
section
variable {P:Program}{W0:World}{ρ:Rho}{α:Type}{L:Nat}{G:Gh}{w:World}{s:S}{μ:Mu}{a:Act}{o:Oper}{h:OpHint}{k:LV→S→Mu→Option α}{p:CV→S→Mu→Option α}{r:α}{K:Act→World→Prop}{Q:Exit→Act→World→Prop}
theorem p5 {q:Mu×Lam}(h:iu μ=some q):μ=q.1++[q.2]:=by
 unfold iu at h
 split at h<;>simp only[Option.some.injEq,reduceCtorEq]at h
 rename_i l r e
 subst h
 have:=congrArg List.reverse e
 simpa using this
theorem ArgsR.strip {ts:List Nat}{args:List LV}{cargs:Array Value}(A:ArgsR G w L s a.tmps ts args cargs):True:=trivial
theorem Lo {f:FuncId}{args args':List LV}{l:Lam}{cargs:Array Value}(R:Rel G L s μ a.tmps w)(hd: ∀d,o.dst=some d→d<a.tmps.size)(hk:KOK L G w s μ a o.dst k r K)(hpk:POK L G w s μ a p r Q)
  (hrho: ∀f args μ out,ρ.call f args μ=some out→cD P W0 f args μ out) (hkn:Kn W0 w (ax G w s μ a.tmps)) (A:ArgsR G w L s a.tmps h.take args cargs) (ha:fw μ.length args=some args') (hlm:dM μ.length s.lam=some l)
  (hrun:(∃fn c,P.funcs[f]? =some fn∧fn.body=some c∧(fn.name == "runtime.NumGoroutine")=false)→(execOp a.eval o).run P w= .ok (.enter f cargs) w)
  (hop : callK (ρ.call f args' (μ ++ [l])) (fun v μ => opt (iu μ) fun q => dv P h.own o.type v fun v => k v { ac h.take s with lam := q.2, pushed := true } q.1)
    (fun v μ=>opt (iu μ) fun q=>p v {ac h.take s with lam:=q.2,pushed:=true} q.1)=some r):o.wp P a w K Q:=by
 obtain⟨out,hout,hop⟩:=ab.1 hop
 obtain⟨hfn,hM⟩:=hrho _ _ _ _ hout
 have hμ:=R.lev
 rw[hμ]at ha hlm
 obtain⟨R1,E1,hO⟩:=dx R h.take
 have hl:=aT h.take s
 obtain⟨Re,hown,hlive⟩:=R.enterP A ha hlm
 have hT: ∀b,ax (G.push L s.lam.length) w (aM args') (μ++[l]) cargs b→ ∀t,¬aD ((ac h.take s).fr t) (a.tmps.getD t undef) b:=by
  rintro b (⟨q,hb⟩|⟨lev,i,hb,rfl⟩) t ht
  ·rcases hown q b hb with⟨j,x,rfl,hx,ho⟩|⟨lev,i,k,rfl,ho⟩
   ·obtain⟨⟨u,hu,hou⟩,_⟩:=A.own j x b hx ho
    obtain⟨a1,a2⟩:=hO (.fr t) b ht
    exact a1 u hu (R.own _ (.fr u) b a2 hou)
   ·have:=R.own _ _ b (hO (.fr t) b ht).2 ho
    cases this
  ·exact R.apart _ _ lev i (hO (.fr t) _ ht).2 (hlive lev i hb) rfl
 have hT0: ∀b,ax (G.push L s.lam.length) w (aM args') (μ++[l]) cargs b→ax G w s μ a.tmps b:=by
  rintro b (⟨q,hb⟩|⟨lev,i,hb,rfl⟩)
  ·rcases hown q b hb with⟨j,x,rfl,hx,ho⟩|⟨lev,i,k,rfl,ho⟩
   ·obtain⟨⟨u,hu,hou⟩,_⟩:=A.own j x b hx ho
    exact .inl ⟨.fr u,hou⟩
   ·exact .inl ⟨_,ho⟩
  ·exact .inr ⟨lev,i,hlive lev i hb,rfl⟩
 have hcall:=hM (G.push L s.lam.length) w cargs (by rw[A.size,(fL ha).1]) (by rw[List.length_append,hμ];exact Re) (hkn.mono hT0)
 rw[show (μ++[l]).length=L+1 by simp[hμ]]at hcall
 unfold Oper.wp
 rw[hrun hfn,Oper.upon_enter]
 refine hcall.mono fun e w' hR=> ?_
 have hnL: ∀i,i<G.n L→i<s.lam.length:=fun i hi=>by
  have:=R.nL
  split at this<;>omega
 have merge: ∀{O':Nat→Nat} {sr:S} {μ':Mu} {l':Lam} {tmr:Array Value},sr.lam=[]→Rel ((G.push L s.lam.length).withO O') (L+1) sr (μ'++[l']) tmr w'→
   Ext (L+1) (ax (G.push L s.lam.length) w (aM args') (μ++[l]) cargs) (G.push L s.lam.length) w ((G.push L s.lam.length).withO O') w' (ax ((G.push L s.lam.length).withO O') w' sr (μ'++[l']) tmr)→
   Rel ((G.push L s.lam.length).withO O') L {ac h.take s with lam:=l',pushed:=true} μ' a.tmps w'∧Ext L (ax G w s μ a.tmps) G w ((G.push L s.lam.length).withO O') w' (ax ((G.push L s.lam.length).withO O') w' {ac h.take s with lam:=l',pushed:=true} μ' a.tmps)∧
   (∀b,ax ((G.push L s.lam.length).withO O') w' sr (μ'++[l']) tmr b→(ax G w s μ a.tmps b∨w.heap.size≤b))∧
   (∀ t b, aw ((G.push L s.lam.length).withO O') w' sr.fr tmr ((μ' ++ [l']) ++ [sr.lam]) (.fr t) b → (∀ q, ¬ aw ((G.push L s.lam.length).withO O') w' (ac h.take s).fr a.tmps (μ' ++ [l']) q b) ∧
    ∀lev i,aK (aC (μ'++[l']) lev i)→((G.push L s.lam.length).withO O').β lev i≠b):=by
  intro O' sr μ' l' tmr hlam Rc E
  have hsl:(ac h.take s).lam.length=s.lam.length:=by rw[hl.1]
  obtain⟨R2,h2,h3⟩:=R1.mergeP (O':=O') hT hlam (by rw[hsl];exact Rc) (by rw[hsl];exact E)
  rw[hsl]at R2 h2
  have hin: ∀b,ax ((G.push L s.lam.length).withO O') w' sr (μ'++[l']) tmr b→(ax G w s μ a.tmps b∨w.heap.size≤b):=fun b hb=>(E.grow b hb).imp (hT0 b) id
  refine⟨R2,⟨(j1 hnL).trans E.le,E.os,E.tape,E.output,E.size,fun b hb hn=>E.keep b hb fun hh=>hn (hT0 b hh),fun b hb=> ?_,fun lv hlv=> ?_⟩,hin,fun t b hb=>⟨fun q hq=> ?_,fun lev i hli e=>Rc.apart _ b lev i hb (h3 lev i hli) e⟩⟩
  ·rcases hb with⟨q,hb⟩|⟨lev,i,hb,rfl⟩
   ·rcases h2 q b hb with⟨_,_,h4⟩|⟨_,h4⟩
    ·exact .inl (.inl ⟨q,(hO q b h4).2⟩)
    ·exact hin b (.inl ⟨q,h4⟩)
   ·exact hin _ (.inr ⟨lev,i,h3 lev i hb,rfl⟩)
  ·refine⟨fun _=>⟨rfl,rfl⟩,?_⟩
   simp only[Gh.withO,Gh.push]
   rw[if_neg (by omega)]
  ·rcases h2 q b hq with⟨h4,h5,_⟩|⟨⟨_,_,_,rfl⟩,h4⟩
   ·rcases E.grow b (.inl ⟨_,hb⟩)with hh|hh
    ·exact h5 hh
    ·omega
   ·have:=Rc.own _ _ b hb h4
    cases this
 cases out with
 |ret v μx=>
  cases e with
  |returned cv=>
   simp only[eX]at hR
   obtain⟨O',Rc,E⟩:=hR
   obtain⟨q,hq,hop2⟩:=ab.1 hop
   clear hop
   have hq':=p5 hq
   subst hq'
   obtain⟨R2,E2,hin,hfr⟩:=merge rfl Rc E
   obtain⟨y,hy,hyr⟩:=ek hop2
   have hv:LVR ((G.push L s.lam.length).withO O') w' (L+1) 0 v cv:=by
    have:=Rc.fr 0
    simp only[cu,List.getElem?_cons_zero,Option.getD_some]at this
    simpa[aM]using this
   obtain⟨hy1,hy2⟩:=hyr ((G.push L s.lam.length).withO O') w' L q.2.length cv (tK v cv hv)
   obtain ⟨R3, E3⟩ := cN (dst := o.dst) (v := y) (cv := cv) R2 E2 hy1 (fun b hb => by
    have hat:aw ((G.push L s.lam.length).withO O') w' (aM [v]).fr #[cv] ((q.1++[q.2])++[(aM [v]).lam]) (.fr 0) b:=by
     have:=hy2 b hb
     simpa[aw,cu]using this
    exact⟨(hfr 0 b hat).1,(hfr 0 b hat).2,hin b (.inl ⟨_,hat⟩)⟩) hd
   exact hk y _ _ cv w' _ hy R3 E3
  |panicked ch=>simp[eX]at hR
  |outgrown=>simp[eX]at hR
 |panic v μx=>
  cases e with
  |returned cv=>simp[eX]at hR
  |panicked ch=>
   simp only[eX]at hR
   obtain⟨O',pv,rfl,hv,Rc,E⟩:=hR
   obtain⟨q,hq,hop2⟩:=ab.1 hop
   clear hop
   have hq':=p5 hq
   subst hq'
   obtain⟨R2,E2,_,_⟩:=merge rfl Rc E
   exact hpk v _ _ pv w' _ hop2 R2 hv E2
  |outgrown=>simp[eX]at hR
end
end Go.Abs
set_option linter.unusedVariables false
set_option linter.unusedSimpArgs false
namespace Go.Abs
open Go Go.MapKept
section
variable {G:Gh}{w:World}{L:Nat}{P:Program}
theorem Ca {d:TypeDesc}{v:Value}(h:Az d v=true):IsKey d v:=by
 cases d<;>cases v<;>simp_all [Az,IsKey]
theorem kF {d:TypeDesc}: ∀{ks:List Value},jK d ks=true→ ∀x∈ks,IsKey d x
 |[],_,x,hx=>by simp at hx
 |k::r,h,x,hx=>by
  simp only[jK]at h
  split at h<;>try(cases h;done)
  rename_i hk
  rcases List.mem_cons.1 hx with rfl|hx
  ·exact Ca hk
  ·exact kF h x hx
theorem qo {d:TypeDesc}{a b:Value}(ha:IsKey d a)(hb:IsKey d b):Instr.sameNow d a b=some (pM a b):=by
 obtain⟨r,h1,h2⟩:=sameNow_of_keys ha hb
 rw[h1]
 congr 1
 rw[Bool.eq_iff_iff,h2]
 cases d<;>cases a<;>cases b<;>simp_all [IsKey,pM]
 rename_i x y
 cases x;cases y
 simp
theorem Au {d:TypeDesc}{k:Value}(hk:IsKey d k): ∀{es:List MapEntry} {ks:List Value} {vs:List CV} {i:Nat},es.map MapEntry.key=ks→VRL G w vs (es.map MapEntry.val)→(∀x∈ks,IsKey d x)→
  (fI ks vs k=none→Instr.findNow d k es i=some none)∧(∀c,fI ks vs k=some c→ ∃j v,Instr.findNow d k es i=some (some (j,v))∧VR G w c v)
 |[],ks,vs,i,he,hv,ho=>by
  subst he
  exact⟨fun _=>rfl,fun c hc=>by simp[fI]at hc⟩
 |e::es,ks,vs,i,he,hv,ho=>by
  subst he
  cases vs with
  |nil=>simp[VRL]at hv
  |cons c0 vs=>
   simp only[List.map_cons,VRL,List.cons.injEq]at hv
   obtain⟨v,r,⟨rfl,rfl⟩,h1,h2⟩:=hv
   have hs:=qo hk (ho e.key (by simp))
   obtain⟨i1,i2⟩:=Au hk (i:=i+1) rfl h2 (fun x hx=>ho x (by simp only[List.map_cons,List.mem_cons];exact .inr hx))
   simp only[fI,List.map_cons,Instr.findNow,hs]
   cases pM k e.key with
   |true=>exact⟨fun h=>by simp at h,fun c hc=>by simp only[Option.some.injEq]at hc;subst hc;exact⟨_,_,rfl,h1⟩⟩
   |false=>exact⟨i1,i2⟩
theorem Ef {d:TypeDesc}{k:Value}(hk:IsKey d k): ∀{es:List MapEntry} {i:Nat},(∀x∈es.map MapEntry.key,IsKey d x)→
  (jJ (es.map MapEntry.key) k=none→Instr.findNow d k es i=some none)∧(∀n,jJ (es.map MapEntry.key) k=some n→ ∃e,es[n]? =some e∧e.key=k∧Instr.findNow d k es i=some (some (i+n,e.val)))
 |[],i,ho=>⟨fun _=>rfl,fun n hn=>by simp[jJ]at hn⟩
 |e::es,i,ho=>by
  have hs:=qo hk (ho e.key (by simp))
  obtain⟨i1,i2⟩:=Ef hk (es:=es) (i:=i+1) (fun x hx=>ho x (by simp only[List.map_cons,List.mem_cons];exact .inr hx))
  simp only[jJ,List.map_cons,Instr.findNow,hs]
  cases hke:pM k e.key with
  |true=>
   refine⟨fun h=>by simp at h,fun n hn=> ?_⟩
   simp only[Option.some.injEq]at hn
   subst hn
   refine⟨e,rfl,?_,rfl⟩
   have:=(sameNow_of_keys hk (ho e.key (by simp)))
   obtain⟨r,h1,h2⟩:=this
   rw[hs,hke]at h1
   simp only[Option.some.injEq]at h1
   exact(h2.1 h1.symm).symm
  |false=>
   refine⟨fun h=>i1 ?_,fun n hn=> ?_⟩
   ·cases hki:jJ (es.map MapEntry.key) k with
    |none=>rfl
    |some n=>rw[hki]at h;simp[opt]at h
   ·obtain⟨m,h1,h2⟩:=ab.1 hn
    simp only[Option.some.injEq]at h2
    subst h2
    obtain⟨e',h3,h4,h5⟩:=i2 m h1
    refine⟨e',by simpa using h3,h4,?_⟩
    rw[h5]
    simp only[Option.some.injEq,Prod.mk.injEq,and_true]
    omega
theorem EM {t kt et:TypeId}{d:TypeDesc}{r:Nat}{es:Array MapEntry}{clk:Nat}{k v:Value}{ks:List Value}{vs:List CV}{c:CV}(hm:P.underlying t=some (.map kt et))(hd:P.underlying kt=some d)
  (hb:w.heap[r]? =some (.map es clk)) (hk:IsKey d k) (hM:qA G w ks vs es) (ho: ∀x∈ks,IsKey d x):
  ∃es' clk',(Instr.mapUpdate t (.map (some r)) k v).run P w= .ok () {w with heap:=w.heap.setIfInBounds r (.map es' clk')}∧es'.toList.map MapEntry.key=kg ks k∧
   ∀G' w',VRL G' w' vs (es.toList.map MapEntry.val)→VR G' w' c v→VRL G' w' (kh ks vs k c) (es'.toList.map MapEntry.val):=by
 obtain⟨hk1,hv1⟩:=hM
 subst hk1
 obtain⟨i1,i2⟩:=Ef hk (es:=es.toList) (i:=0) ho
 cases hi:jJ (es.toList.map MapEntry.key) k with
 |none=>
  have hf:=i1 hi
  refine⟨es.push {key:=k,val:=v,born:=clk},clk+1,?_,?_,fun G' w' h1 h2=> ?_⟩
  ·simp[Instr.mapUpdate,run_underlying hm,MapKept.run_getObj_map hb,MapKept.run_checkKey hd hk,MapKept.run_findKey hd hf,MapKept.run_setObj_map _ hb,Result.andThen]
  ·simp[kg,hi]
  ·simp only[kh,hi,Array.toList_push,List.map_append,List.map_cons,List.map_nil]
   revert h1
   generalize es.toList.map MapEntry.val=l
   clear hv1
   induction vs generalizing l with
   |nil=>intro h1;simp only[VRL]at h1;subst h1;simpa[VRL]using h2
   |cons x vs ih=>
    intro h1
    simp only[VRL]at h1
    obtain⟨u,q,rfl,a1,a2⟩:=h1
    simp only[List.cons_append,VRL]
    exact⟨u,_,rfl,a1,ih _ a2⟩
 |some n=>
  obtain⟨e,he,hek,hf⟩:=i2 n hi
  rw[Nat.zero_add]at hf
  have he':es[n]? =some e:=by simpa using he
  refine⟨es.modify n fun e=>{e with key:=k,val:=v},clk,?_,?_,fun G' w' h1 h2=> ?_⟩
  ·have hks:(Instr.keyThatStays (((es[n]?).map (·.key)).getD k) k).run P w= .ok k w:=by
    rw[he']
    simp only[Option.map_some,Option.getD_some,hek]
    exact run_keyThatStays hk
   simp[Instr.mapUpdate,run_underlying hm,MapKept.run_getObj_map hb,MapKept.run_checkKey hd hk,MapKept.run_findKey hd hf,hks,MapKept.run_setObj_map _ hb,Result.andThen]
  ·simp only[kg,hi]
   exact modify_keys n _ fun e2 h=>by
    rw[he']at h
    simp only[Option.some.injEq]at h
    subst h
    simp[hek]
  ·simp only[kh,hi]
   have hl:(es.modify n fun e=>{e with key:=k,val:=v}).toList.map MapEntry.val=(es.toList.map MapEntry.val).set n v:=by
    apply List.ext_getElem?
    intro j
    simp only[List.getElem?_map,Array.getElem?_toList,Array.getElem?_modify,List.getElem?_set,List.length_map,Array.length_toList]
    by_cases hnj:n=j
    ·subst hnj
     have:n<es.size:=(Array.getElem?_eq_some_iff.1 he').1
     simp[he',this]
    ·simp[hnj]
   rw[hl]
   revert h1
   generalize es.toList.map MapEntry.val=l
   clear hl hv1 hf he he' i1 i2 hi
   induction vs generalizing l n with
   |nil=>intro h1;simp only[VRL]at h1;subst h1;simp[VRL]
   |cons x vs ih=>
    intro h1
    simp only[VRL]at h1
    obtain⟨u,q,rfl,a1,a2⟩:=h1
    cases n with
    |zero=>simp only[List.set_cons_zero,VRL];exact⟨v,q,rfl,h2,a2⟩
    |succ n=>simp only[List.set_cons_succ,VRL];exact⟨u,_,rfl,a1,ih n q a2⟩
theorem Rel.setMap {s s1:S}{μ μ1:Mu}{tm:Array Value}(R:Rel G L s μ tm w){lev i:Nat}{ks ks':List Value}{vs vs':List CV}(hob:aC (μ++[s.lam]) lev i= .map ks vs){es es':Array MapEntry}{clk clk':Nat}
  (hb:w.heap[G.β lev i]? =some (.map es clk)) (hfr:s1.fr=s.fr) (hp:s1.pushed=s.pushed) (hlen:s1.lam.length=s.lam.length) (hμlen:μ1.length=μ.length) (hH:μ1++[s1.lam]=ci (μ++[s.lam]) lev i (.map ks' vs'))
  (hnew: ∀w',Le G w G w'→(lev=L→qA G w' ks' vs' es')∧(lev<L→qA (G.below lev) w' ks' vs' es')):
  let w1:World:={w with heap:=w.heap.setIfInBounds (G.β lev i) (.map es' clk')}
  Rel G L s1 μ1 tm w1∧Ext L (ax G w s μ tm) G w G w1 (ax G w1 s1 μ1 tm):=by
 intro w1
 have hl:aK (aC (μ++[s.lam]) lev i):=by rw[hob];trivial
 have hO:G.O (G.β lev i)=0:=by
  rcases cG R.lev hl with⟨h1,h2⟩|⟨rfl,h1,h2⟩
  ·have:=R.mu lev i h1
   rw[←h2,hob]at this
   simp only[ObR]at this
   obtain⟨_,_,_,h,_⟩:=this
   exact h
  ·have:=R.lam i
   rw[←h2,hob]at this
   simp only[ObR]at this
   obtain⟨_,_,_,h,_⟩:=this
   exact h
 have hw1:w1.heap[G.β lev i]? =some (.map es' clk'):=(heap_set hb).1
 have hblk: ∀b,b≠G.β lev i→w1.heap[b]? =w.heap[b]? :=fun b h=>(heap_set hb).2 b h
 have hsz:w1.heap.size=w.heap.size:=by simp[w1]
 have hle:Le G w G w1:=by
  refine⟨fun b es2 clk2 h hb2=> ?_,fun _ _ h=>⟨h,rfl,rfl⟩,fun b off v h hc=> ?_,fun b cur2 e2 fz2 h=> ?_⟩
  ·have hne:b≠G.β lev i:=fun e=>by subst e;omega
   exact⟨h,by rw[hblk b hne];exact hb2⟩
  ·have hne:b≠G.β lev i:=fun e=>by subst e;omega
   refine⟨h,?_⟩
   rw[←hc]
   simp only[World.cell?]
   rw[hblk b hne]
  ·have hne:b≠G.β lev i:=fun e=>by subst e;rw[hb]at h;cases h
   exact⟨cur2,fz2,by rw[hblk b hne];exact h,rfl⟩
 have hset:=AH (o:=Ob.map ks' vs') hl
 have hAt: ∀l j,aC (μ1++[s1.lam]) l j=if l=lev∧j=i then .map ks' vs' else aC (μ++[s.lam]) l j:=fun l j=>by rw[aC,hH];exact hset l j
 have hlive: ∀l j,aK (aC (μ1++[s1.lam]) l j)→aK (aC (μ++[s.lam]) l j):=by
  intro l j h
  rw[hAt]at h
  split at h
  ·rename_i e;rw[e.1,e.2];exact hl
  ·exact h
 have hne: ∀l j,aK (aC (μ++[s.lam]) l j)→ ¬(l=lev∧j=i)→G.β l j≠G.β lev i:=fun l j h hn e=>hn (R.inj l j lev i h hl e)
 have hownAt: ∀l b,aw G w1 s1.fr tm (μ1++[s1.lam]) l b→aw G w s.fr tm (μ++[s.lam]) l b:=by
  intro l b h
  cases l with
  |fr t=>rw[hfr]at h;exact h
  |ob l j k=>
   simp only[aw]at h
   split at h<;>try(exact h.elim)
   rename_i cs hcs
   split at h<;>try(exact h.elim)
   rename_i x hx
   obtain⟨cur2,e2,fz2,hb2,ho⟩:=h
   rw[hAt]at hcs
   by_cases e:l=lev∧j=i
   ·rw[if_pos e]at hcs;cases hcs
   ·rw[if_neg e]at hcs
    have hl2:aK (aC (μ++[s.lam]) l j):=by rw[hcs];trivial
    rw[hblk _ (hne l j hl2 e)]at hb2
    simp only[aw,hcs,hx]
    exact⟨cur2,e2,fz2,hb2,ho⟩
 have hownBlk: ∀l b,aw G w s.fr tm (μ++[s.lam]) l b→w1.heap[b]? =w.heap[b]? ∧G.O b=G.O b:=fun l b h=>⟨hblk b fun e=>R.apart l b lev i h hl e.symm,rfl⟩
 have hlvl:lev≤L:=by rcases cG R.lev hl with⟨h1,_⟩|⟨h1,_⟩<;>omega
 refine ⟨⟨by rw [hμlen]; exact R.lev, fun t => ?_, fun j => ?_, fun l j hlt => ?_, fun l j l' j' h h' e' => R.inj l j l' j' (hlive l j h) (hlive l' j' h') e', fun l l' b h h' => R.own l l' b (hownAt l b h) (hownAt l' b h'), fun l b l' j h h' e' => R.apart l b l' j (hownAt l b h) (hlive l' j h') e', fun l hlt => ?_, ?_, R.ngt⟩,
  ⟨hle,rfl,rfl,rfl,by rw[hsz];exact Nat.le_refl _,fun b hb' hn=>⟨hblk b fun e=>hn (.inr ⟨lev,i,hl,e.symm⟩),rfl⟩,fun b hb'=> .inl ?_,fun _ _=>⟨fun _=>⟨rfl,rfl⟩,rfl⟩⟩⟩
 ·rw[hfr,hlen]
  exact df hle (Nat.le_refl _) (fun _ _=>⟨rfl,rfl⟩) _ _ (fun b hb=>hownBlk (.fr t) b hb) (R.fr t)
 ·rw[hlen]
  have e1:aC (μ1++[s1.lam]) L j=aG s1.lam j:=by rw[←R.lev,←hμlen];exact bY
  have e2:aC (μ++[s.lam]) L j=aG s.lam j:=by rw[←R.lev];exact bY
  rw[←e1,hAt]
  split
  ·rename_i e
   obtain⟨rfl,rfl⟩:=e
   simp only[ObR]
   exact⟨es',clk',hw1,hO,(hnew w1 hle).1 rfl⟩
  ·rename_i e
   rw[e2]
   refine cU hle (Nat.le_refl _) (fun _ _=>⟨rfl,rfl⟩) (fun h=>⟨hblk _ (hne L j (by rw[e2];exact h) e),rfl⟩) (fun cs k x cur e fz ho hx hb b' hb'=>hownBlk (.ob L j k) b' ?_) (R.lam j)
   simp only[aw,e2,ho,hx]
   exact⟨cur,e,fz,hb,hb'⟩
 ·have e1:aC (μ1++[s1.lam]) l j=bb μ1 l j:=bC (by rw[hμlen,R.lev];exact hlt)
  have e2:aC (μ++[s.lam]) l j=bb μ l j:=bC (by rw[R.lev];exact hlt)
  rw[←e1,hAt]
  split
  ·rename_i e
   obtain⟨rfl,rfl⟩:=e
   simp only[ObR]
   exact⟨es',clk',hw1,hO,(hnew w1 hle).2 hlt⟩
  ·rename_i e
   rw[e2]
   refine cU (hle.below l) (Nat.le_refl _) (fun _ h=>by omega) (fun h=>⟨hblk _ (hne l j (by rw[e2];exact h) e),rfl⟩) (fun cs k x cur e fz ho hx hb b' hb'=>hownBlk (.ob l j k) b' ?_) (R.mu l j hlt)
   simp only[aw,e2,ho,hx]
   exact⟨cur,e,fz,hb,hb'⟩
 ·have h1:(μ1.getD l []).length=(μ.getD l []).length:=by
   have:=(gW (H:=μ++[s.lam]) (lev:=lev) (i:=i) (o:=Ob.map ks' vs')).2 l
   rw[←hH]at this
   have a1:l<μ1.length:=by rw[hμlen,R.lev];exact hlt
   have a2:l<μ.length:=by rw[R.lev];exact hlt
   simp only[List.getD_eq_getElem?_getD,List.getElem?_append_left a1,List.getElem?_append_left a2]at this ⊢
   exact this
  rw[h1];exact R.nlt l hlt
 ·rw[hp,hlen];exact R.nL
 ·rcases hb' with⟨l,hb'⟩|⟨l,j,h,rfl⟩
  ·exact .inl ⟨l,hownAt l b hb'⟩
  ·exact .inr ⟨l,j,hlive l j h,rfl⟩
end
section
variable {P:Program}{ρ:Rho}{α:Type}{L:Nat}{G:Gh}{w:World}{s:S}{μ:Mu}{a:Act}{o:Oper}{h:OpHint}{k:LV→S→Mu→Option α}{p:CV→S→Mu→Option α}{r:α}{K:Act→World→Prop}{Q:Exit→Act→World→Prop}
theorem wB {t:TypeId}{z:CV}(hz:wA P t=some z): ∃zv,(zeroValue t).run P w= .ok zv w∧VR G w z zv:=by
 unfold wA at hz
 split at hz<;>try(simp at hz;done)
 rename_i i hi
 split at hz<;>try(simp at hz;done)
 rename_i zv hzv
 refine⟨zv,by simp[zeroValue,typeInfo,hi,hzv],?_⟩
 split at hz
 ·rename_i cs
  simp only[Option.some.injEq]at hz
  subst hz
  simp only[VR]
  refine⟨cs,rfl,?_⟩
  generalize cs.toList=l
  induction l with
  |nil=>simp[VRL]
  |cons x l ih=>simp only[List.map_cons,VRL];exact⟨x,l,rfl,by simp[VR],ih⟩
 ·simp only[Option.some.injEq]at hz
  subst hz
  simp[VR]
theorem sP {nl:Nat}{c:CV}{v:Value}{b:Bool}(h:VR G w c v):LVR G w L nl (.ltup [.cv c,.cv (.v (.bool b))]) (.tuple #[v,.bool b]):=by
 simp only[LVR]
 refine⟨_,rfl,?_⟩
 simp only[bR]
 exact⟨v,[.bool b],rfl,by simp,by simpa[LVR]using h,.bool b,[],rfl,by simp,by simp[LVR,VR],rfl⟩
theorem mW (R:Rel G L s μ a.tmps w)(hd: ∀d,o.dst=some d→d<a.tmps.size)(hk:KOK L G w s μ a o.dst k r K){ts:List Nat}{v:LV}(hno: ∀cv b,¬aD v cv b)
  (h:k v (ac ts s) μ=some r) (hrun: ∃cv,(execOp a.eval o).run P w= .ok (.value cv) w∧LVR G w L s.lam.length v cv):o.wp P a w K Q:=by
 obtain⟨cv,h1,h2⟩:=hrun
 exact dD R hd hk h h1 h2 (fun b hb=>absurd hb (hno cv b))
theorem zS {x:Operand}{xt t:TypeId}{ok:Bool}(ho:o.op= .typeAssert x xt t ok)(R:Rel G L s μ a.tmps w)(hd: ∀d,o.dst=some d→d<a.tmps.size)(hk:KOK L G w s μ a o.dst k r K)
  (hop:(ii P (evA h s.fr x) t ok fun v=>k v (ac h.take s) μ)=some r):o.wp P a w K Q:=by
 unfold ii at hop
 split at hop<;>try(simp at hop;done)
 rename_i d hni hu
 split at hop<;>try(simp at hop;done)
 obtain⟨z,hz,hop2⟩:=ab.1 hop
 clear hop
 obtain⟨zv,hzr,hzv⟩:=wB (G:=G) (w:=w) hz
 have hno: ∀c b (cv:Value) bl,¬aD (.ltup [.cv c,.cv (.v (.bool b))]) cv bl:=fun _ _ _ _ h=>by simp[aD]at h
 have hmiss : (Instr.typeAssert (a.eval x) xt t true).run P w = (match a.eval x with
   | .nilIface=> .ok (.tuple #[zv,.bool false]) w
   | .iface u v=>if u=t then .ok (.tuple #[v,.bool true]) w else .ok (.tuple #[zv,.bool false]) w
   |_=>(Instr.typeAssert (a.eval x) xt t true).run P w):=by
  unfold Instr.typeAssert
  cases hx:a.eval x<;>try rfl
  ·rename_i u v
   simp only[Sem.run_bind,run_underlying hu,Result.andThen_ok]
   cases d<;>first
    |(exact absurd hu (hni _))
    |(by_cases hut:u=t<;>simp[hut,hzr])
  ·simp only[Sem.run_bind,run_underlying hu,Result.andThen_ok]
   cases d<;>first
    |(exact absurd hu (hni _))
    |simp[hzr]
 split at hop2
 ·rename_i u c he
  have hv:=cx R he
  simp only[VR]at hv
  obtain⟨v,e,hc⟩:=hv
  rw[e]at hmiss
  split at hop2
  ·rename_i hut
   have:=Nat.eq_of_beq_eq_true hut
   subst this
   refine mW R hd hk (hno _ _) hop2 ⟨.tuple #[v,.bool true],?_,sP hc⟩
   simp only[execOp,ho,e]
   refine cK ?_
   rw[hmiss]
   simp
  ·rename_i hut
   refine mW R hd hk (hno _ _) hop2 ⟨.tuple #[zv,.bool false],?_,sP hzv⟩
   simp only[execOp,ho,e]
   refine cK ?_
   rw[hmiss]
   have: ¬u=t:=fun e=>by subst e;simp[Nat.beq_refl]at hut
   simp[this]
 ·rename_i he
  have hv:=cx R he
  simp only[VR]at hv
  rw[hv]at hmiss
  refine mW R hd hk (hno _ _) hop2 ⟨.tuple #[zv,.bool false],?_,sP hzv⟩
  simp only[execOp,ho,hv]
  refine cK ?_
  rw[hmiss]
 ·simp at hop2
theorem Iu {t:TypeId}(ho:o.op= .makeMap t none)(R:Rel G L s μ a.tmps w)(hd: ∀d,o.dst=some d→d<a.tmps.size)(hk:KOK L G w s μ a o.dst k r K)
  (hop:k (.mloc (ac h.take s).lam.length) {ac h.take s with lam:=(ac h.take s).lam++[.map [] []]} μ=some r):o.wp P a w K Q:=by
 obtain⟨R1,E,_⟩:=dx R h.take
 obtain⟨R2,hle,hT,hv⟩:=R1.newMap
 have E1:Ext L (ax G w s μ a.tmps) G w (G.setL L (ac h.take s).lam.length w.heap.size 0 (ac h.take s).pushed) (w.alloc (.map #[] 0)) (ax (G.setL L (ac h.take s).lam.length w.heap.size 0 (ac h.take s).pushed) (w.alloc (.map #[] 0)) {ac h.take s with lam:=(ac h.take s).lam++[.map [] []]} μ a.tmps):=by
  refine⟨hle,rfl,rfl,rfl,by simp,fun b hb hn=> ?_,fun b hb=> ?_,fun l hl=>Bq l hl⟩
  ·refine⟨heap_alloc_old w _ hb,?_⟩
   have:b≠w.heap.size:=by omega
   simp[Gh.setL,this]
  ·rcases hT b hb with h1|rfl
   ·exact E.grow b h1
   ·exact .inr (Nat.le_refl _)
 obtain⟨R3,E3⟩:=cN (dst:=o.dst) (v:= .mloc (ac h.take s).lam.length) (cv:= .map (some w.heap.size)) R2 E1 hv (fun b hb=>by simp[aD]at hb) hd
 refine dw ?_ (hk _ _ μ _ _ _ hop R3 E3)
 simp only[execOp,ho]
 refine cK ?_
 simp[Instr.makeMap]
theorem vE {t:TypeId}{q:TypeDesc×TypeId}(h:yS P t=some q): ∃kt,P.underlying t=some (.map kt q.2)∧P.underlying kt=some q.1:=by
 unfold yS at h
 split at h<;>try(simp at h;done)
 rename_i kt e hu
 obtain⟨d,hd,h⟩:=ab.1 h
 simp only[Option.some.injEq]at h
 subst h
 exact⟨kt,hu,hd⟩
theorem xS {d:TypeDesc}{x:LV}{kv:Value}{nl:Nat}{v:Value}(h:FW d x=some kv)(hv:LVR G w L nl x v):v=kv∧IsKey d kv:=by
 unfold FW at h
 split at h<;>try(simp at h;done)
 ·obtain⟨n,h1,h2⟩:=ab.1 h
  simp only[Option.some.injEq]at h2
  subst h2
  rw[gO h1]at hv
  simp only[LVR,VR]at hv
  exact⟨hv,rfl⟩
 ·obtain⟨n,h1,h2⟩:=ab.1 h
  simp only[Option.some.injEq]at h2
  subst h2
  rw[fi h1]at hv
  simp only[LVR,VR]at hv
  exact⟨hv,trivial⟩
 ·obtain⟨n,h1,h2⟩:=ab.1 h
  simp only[Option.some.injEq]at h2
  subst h2
  rw[fh h1]at hv
  simp only[LVR,VR]at hv
  exact⟨hv,trivial⟩
theorem zR {t:TypeId}{m x y:Operand}(ho:o.op= .insert t m x y∨o.op= .mapUpdate t m x y)(R:Rel G L s μ a.tmps w)(hd: ∀d,o.dst=some d→d<a.tmps.size)(hk:KOK L G w s μ a o.dst k r K)
  (hop:gt P t (evA h s.fr m) (evA h s.fr x) (evA h s.fr y) (ac h.take s) μ k=some r):o.wp P a w K Q:=by
 obtain⟨R1,E1,hO⟩:=dx R h.take
 have hl:=aT h.take s
 have hexec: ∀{w':World},(Instr.mapUpdate t (a.eval m) (a.eval x) (a.eval y)).run P w= .ok () w'→(execOp a.eval o).run P w= .ok .skip w':=by
  intro w' hw
  rcases ho with ho|ho<;>(simp only[execOp,ho];exact Ht hw)
 unfold gt at hop
 obtain⟨q,hq,hop⟩:=ab.1 hop
 obtain⟨kt,hu,hkd⟩:=vE hq
 obtain⟨kv,hkv,hop⟩:=ab.1 hop
 obtain⟨hkx,hkk⟩:=xS hkv (a8 R h x).1
 obtain⟨c,hc,hop⟩:=ab.1 hop
 have hcv:=eH hc (a8 R h y).1
 split at hop
 ·rename_i i he
  have hm:=(a8 R h m).1
  rw[he]at hm
  simp only[LVR]at hm
  split at hop<;>try(simp at hop;done)
  rename_i ks vs hob
  obtain⟨hg,hop⟩:=aJ.1 hop
  rw[hl.1]at hob
  have hobr:=R.lam i
  rw[hob]at hobr
  simp only[ObR]at hobr
  obtain⟨es,clk,hb,hO0,hM⟩:=hobr
  obtain⟨es',clk',hrun,hkeys,hvals⟩:=EM (P:=P) (c:=c) (v:=a.eval y) hu hkd hb hkk hM (kF hg)
  have hob2:aC (μ++[(ac h.take s).lam]) L i= .map ks vs:=by rw[hl.1,←R.lev];exact bY.trans hob
  obtain⟨R2,E2⟩:=R1.setMap (s1:={ac h.take s with lam:=(ac h.take s).lam.set i (.map (kg ks kv) (kh ks vs kv c))}) (μ1:=μ) hob2 hb rfl rfl (by simp) rfl (by rw[←R.lev];exact rz.symm) (es':=es') (clk':=clk')
   (fun w' hle=>⟨fun _=>⟨hkeys,hvals G w' (fW hle vs _ hM.2) (bk hle c _ hcv)⟩,fun e=>by omega⟩)
  obtain⟨R3,E3⟩:=cN (dst:=o.dst) (v:= .cv .undef) (cv:=undef) R2 (E1.trans E2) (by simp[LVR,VR]) (fun b hb=>by simp[aD]at hb) hd
  refine ma (hexec ?_) (hk _ _ _ _ _ G hop R3 E3)
  rw[hm.2,hkx]
  exact hrun
 ·rename_i lev i he
  have hm:=cx R he
  simp only[VR]at hm
  split at hop<;>try(simp at hop;done)
  rename_i ks vs hob
  obtain⟨hg,hop⟩:=aJ.1 hop
  simp only[Bool.and_eq_true]at hg
  have hlt:lev<μ.length:=by
   by_cases hq:lev<μ.length
   ·exact hq
   ·simp only[bb]at hob
    rw[List.getElem?_eq_none (by omega)]at hob
    simp at hob
  have hobr:=R.mu lev i (by rw[←R.lev];exact hlt)
  rw[hob]at hobr
  simp only[ObR]at hobr
  obtain⟨es,clk,hb,hO0,hM⟩:=hobr
  obtain⟨es',clk',hrun,hkeys,hvals⟩:=EM (P:=P) (c:=c) (v:=a.eval y) hu hkd hb hkk hM (kF hg.1)
  have hob2:aC (μ++[(ac h.take s).lam]) lev i= .map ks vs:=(bC hlt).trans hob
  obtain⟨R2,E2⟩:=R1.setMap (s1:=ac h.take s) (μ1:=ci μ lev i (.map (kg ks kv) (kh ks vs kv c))) hob2 hb rfl rfl rfl gW.1 (ln hlt).symm (es':=es') (clk':=clk')
   (fun w' hle=>⟨fun e=>by rw[R.lev]at hlt;omega,fun _=>⟨hkeys,hvals _ w' (fW (hle.below lev) vs _ hM.2) (bk (hle.below lev) c _ (zB c _ hg.2 hcv))⟩⟩)
  obtain⟨R3,E3⟩:=cN (dst:=o.dst) (v:= .cv .undef) (cv:=undef) R2 (E1.trans E2) (by simp[LVR,VR]) (fun b hb=>by simp[aD]at hb) hd
  refine ma (hexec ?_) (hk _ _ _ _ _ G hop R3 E3)
  rw[hm.2,hkx]
  exact hrun
 ·simp at hop
theorem F9 {x:LV}{q:List Value×List CV}{cv:Value}(R:Rel G L s μ a.tmps w)(h:sC x s μ=some q)(hv:LVR G w L s.lam.length x cv):
  (q=([],[])∧cv= .map none)∨ ∃r es clk,cv= .map (some r)∧w.heap[r]? =some (.map es clk)∧qA G w q.1 q.2 es:=by
 unfold sC at h
 split at h
 ·simp only[Option.some.injEq]at h
  subst h
  simp only[LVR,VR]at hv
  obtain⟨r,es,clk,h1,h2,h3,h4,h5⟩:=hv
  exact .inr ⟨r,es,clk,h1,h2,h4,h5⟩
 ·simp only[Option.some.injEq]at h
  subst h
  simp only[LVR,VR]at hv
  exact .inl ⟨rfl,hv⟩
 ·rename_i i
  split at h<;>try(simp at h;done)
  rename_i ks vs hob
  simp only[Option.some.injEq]at h
  subst h
  simp only[LVR]at hv
  have hobr:=R.lam i
  rw[hob]at hobr
  simp only[ObR]at hobr
  obtain⟨es,clk,hb,_,hM⟩:=hobr
  exact .inr ⟨_,es,clk,hv.2,hb,hM⟩
 ·rename_i lev i
  split at h<;>try(simp at h;done)
  rename_i ks vs hob
  simp only[Option.some.injEq]at h
  subst h
  simp only[LVR,VR]at hv
  have hlt:lev<μ.length:=by
   by_cases hq:lev<μ.length
   ·exact hq
   ·simp only[bb]at hob
    rw[List.getElem?_eq_none (by omega)]at hob
    simp at hob
  have hobr:=R.mu lev i (by rw[←R.lev];exact hlt)
  rw[hob]at hobr
  simp only[ObR]at hobr
  obtain⟨es,clk,hb,_,hM⟩:=hobr
  exact .inr ⟨_,es,clk,hv.2,hb,kT (mn G w lev) hM⟩
 ·simp at h
theorem Lq {t:TypeId}{m x:Operand}{ok:Bool}(ho:o.op= .lookup t m x ok)(R:Rel G L s μ a.tmps w)(hd: ∀d,o.dst=some d→d<a.tmps.size)(hk:KOK L G w s μ a o.dst k r K)
  (hop:(ip P t (evA h s.fr m) (evA h s.fr x) ok (ac h.take s) μ fun v=>k v (ac h.take s) μ)=some r):o.wp P a w K Q:=by
 obtain⟨R1,E1,hO⟩:=dx R h.take
 have hl:=aT h.take s
 unfold ip at hop
 obtain⟨q,hq,hop⟩:=ab.1 hop
 obtain⟨kt,hu,hkd⟩:=vE hq
 obtain⟨kv,hkv,hop⟩:=ab.1 hop
 obtain⟨hkx,hkk⟩:=xS hkv (a8 R h x).1
 obtain⟨pq,hpq,hop⟩:=ab.1 hop
 obtain⟨hg,hop⟩:=aJ.1 hop
 have hmv:LVR G w L (ac h.take s).lam.length (evA h s.fr m) (a.eval m):=by rw[hl.1];exact(a8 R h m).1
 have hmo:=F9 R1 hpq hmv
 have fin: ∀(c:CV) (v:Value) (b:Bool),VR G w c v→(Instr.lookup t (a.eval m) (a.eval x) ok).run P w= .ok (if ok then .tuple #[v,.bool b]else v) w→
   (ok=true→k (.ltup [.cv c,.cv (.v (.bool b))]) (ac h.take s) μ=some r)→(ok=false→k (.cv c) (ac h.take s) μ=some r)→o.wp P a w K Q:=by
  intro c v b hc hrun hT hF
  cases ok with
  |true=>
   refine mW R hd hk (fun cv bl hh=>by simp[aD]at hh) (hT rfl) ⟨.tuple #[v,.bool b],?_,sP hc⟩
   simp only[execOp,ho]
   exact cK (by simpa using hrun)
  |false=>
   refine mW R hd hk (fun cv bl hh=>by simp[aD]at hh) (hF rfl) ⟨v,?_,by simpa[LVR]using hc⟩
   simp only[execOp,ho]
   exact cK (by simpa using hrun)
 have runs: ∀(es:Array MapEntry),(a.eval m= .map none∧es= #[]∨ ∃r clk,a.eval m= .map (some r)∧w.heap[r]? =some (.map es clk))→qA G w pq.1 pq.2 es→o.wp P a w K Q:=by
  intro es hes hM
  obtain⟨f1,f2⟩:=Au (G:=G) (w:=w) hkk (i:=0) hM.1 hM.2 (kF hg)
  have hnone:Instr.findNow q.1 kv es.toList 0=some none→ ∀v,(zeroValue q.2).run P w= .ok v w→(Instr.lookup t (a.eval m) (a.eval x) ok).run P w= .ok (if ok then .tuple #[v,.bool false]else v) w:=by
   intro hf v hz
   rcases hes with⟨e1,rfl⟩|⟨r,clk,e1,hb⟩
   ·simp[Instr.lookup,run_underlying hu,e1,hkx,MapKept.run_checkKey hkd hkk,MapKept.run_findKey hkd hf,hz]
   ·simp[Instr.lookup,run_underlying hu,e1,hkx,MapKept.run_getObj_map hb,MapKept.run_checkKey hkd hkk,MapKept.run_findKey hkd hf,hz]
  have hsome: ∀j v,Instr.findNow q.1 kv es.toList 0=some (some (j,v))→(Instr.lookup t (a.eval m) (a.eval x) ok).run P w= .ok (if ok then .tuple #[v,.bool true]else v) w:=by
   intro j v hf
   rcases hes with⟨e1,rfl⟩|⟨r,clk,e1,hb⟩
   ·simp[Instr.lookup,run_underlying hu,e1,hkx,MapKept.run_checkKey hkd hkk,MapKept.run_findKey hkd hf]
   ·simp[Instr.lookup,run_underlying hu,e1,hkx,MapKept.run_getObj_map hb,MapKept.run_checkKey hkd hkk,MapKept.run_findKey hkd hf]
  unfold optE at hop
  cases hfd:fI pq.1 pq.2 kv with
  |none=>
   rw[hfd]at hop
   obtain⟨z,hz,hop⟩:=ab.1 hop
   obtain⟨zv,hzr,hzv⟩:=wB (G:=G) (w:=w) hz
   exact fin z zv false hzv (hnone (f1 hfd) zv hzr) (fun e=>by subst e;exact hop) (fun e=>by subst e;exact hop)
  |some c=>
   rw[hfd]at hop
   obtain⟨j,v,hf,hcv⟩:=f2 c hfd
   unfold fO at hop
   obtain⟨c',hc',hcr⟩:=m0 hop
   exact fin c' v true (hcr G w L 0 v (by simpa[LVR]using hcv)) (hsome j v hf) (fun e=>by subst e;exact hc') (fun e=>by subst e;exact hc')
 rcases hmo with⟨e1,e2⟩|⟨r,es,clk,e1,hb,hM⟩
 ·exact runs #[] (.inl ⟨e2,rfl⟩) (by rw[e1];exact⟨rfl,by simp[VRL]⟩)
 ·exact runs es (.inr ⟨r,clk,e1,hb⟩) hM
end
end Go.Abs
set_option linter.unusedVariables false
set_option linter.unusedSimpArgs false
namespace Go.Abs
open Go
section
variable {P:Program}{W0:World}{ρ:Rho}{α:Type}{L:Nat}{G:Gh}{w:World}{s:S}{μ:Mu}{a:Act}{o:Oper}{h:OpHint}{k:LV→S→Mu→Option α}{p:CV→S→Mu→Option α}{r:α}{K:Act→World→Prop}{Q:Exit→Act→World→Prop}
def el (P:Program)(W0:World)(ρ:Rho):Prop:= ∀f args μ out,ρ.call f args μ=some out→cD P W0 f args μ out
theorem Bl {c:Call}{fx:Operand}{f:FuncId}{vs:Array Value}(ho:o.op= .call c)(hc:c.callee= .value fx)(he:a.eval fx= .func (.func f) #[] vs)
  (hfn: ∃fn cd,P.funcs[f]? =some fn∧fn.body=some cd∧(fn.name == "runtime.NumGoroutine")=false):
  (execOp a.eval o).run P w= .ok (.enter f (c.args.toList.map a.eval++vs.toList).toArray) w:=by
 obtain⟨fn,cd,h1,h2,h3⟩:=hfn
 have e:(c.args.toList.map a.eval++vs.toList).toArray=c.args.map a.eval++vs:=by
  apply Array.ext'
  simp
 rw[e]
 simp only[execOp,ho,resolve,hc,he,Deferred.ofValue,Sem.run_bind,Sem.run_pure,Result.andThen_ok,invoke,callFunc,run_program,h1,h3,h2,Option.isNone_some,Bool.false_eq_true,if_false,Array.empty_append]
theorem Iq {c:Call}{fx:Operand}(ho:o.op= .call c)(hc:c.callee= .value fx)(R:Rel G L s μ a.tmps w)(hd: ∀d,o.dst=some d→d<a.tmps.size)(hk:KOK L G w s μ a o.dst k r K)(hpk:POK L G w s μ a p r Q)
  (hrho:el P W0 ρ) (hkn:Kn W0 w (ax G w s μ a.tmps)) {f:FuncId} {caps:List LV} (hdis:ff c.args.toList=true) {vs:Array Value} (he:a.eval fx= .func (.func f) #[] vs) (hcaps:bR G w L s.lam.length caps vs.toList)
  (hop:fE P ρ h o.type f (c.args.toList.map (evA h s.fr)++caps) (ac h.take s) μ k p=some r):o.wp P a w K Q:=by
 have A:=Ll R (h:=h) hdis hcaps
 have hl:=aT h.take s
 unfold fE at hop
 split at hop
 ·obtain⟨hg,hop2⟩:=aJ.1 hop
  simp only[Bool.and_eq_true,Bool.not_eq_true']at hg
  rw[hl.2]at hg
  exact Lp R hd hk hpk hrho hkn hg.1 hg.2 A (Bl ho hc he) hop2
 ·obtain⟨args',ha,hop2⟩:=ab.1 hop
  obtain⟨l,hlm,hop3⟩:=ab.1 hop2
  rw[hl.1]at hlm
  exact Lo R hd hk hpk hrho hkn A ha hlm (Bl ho hc he) hop3
theorem Hj (R:Rel G L s μ a.tmps w)(hd: ∀d,o.dst=some d→d<a.tmps.size)(hk:KOK L G w s μ a o.dst k r K)(hpk:POK L G w s μ a p r Q)(hrho:el P W0 ρ)(hkn:Kn W0 w (ax G w s μ a.tmps))
  (hop:cH P ρ h o s μ k p=some r):o.wp P a w K Q:=by
 unfold cH at hop
 dsimp only at hop
 split at hop
 ·exact Iv (.inl (by assumption)) R hd hk hop
 ·exact Iv (.inr (by assumption)) R hd hk hop
 ·exact Pv (by assumption) R hd hk hop
 ·exact NY (by assumption) R hd hk hop
 ·exact QS (by assumption) R hd hk hop
 ·exact N1 (by assumption) R hd hk hop
 ·split at hop<;>try(simp at hop;done)
  obtain⟨sz,h1,hop2⟩:=ab.1 hop
  obtain⟨h2,hop3⟩:=aJ.1 hop2
  obtain⟨zc,h3,hop4⟩:=ab.1 hop3
  obtain⟨ps,h4,hop5⟩:=ab.1 hop4
  obtain⟨xs,h5,hop6⟩:=ab.1 hop5
  obtain⟨h6,hop7⟩:=aJ.1 hop6
  obtain⟨h7,hop8⟩:=aJ.1 hop7
  clear hop hop2 hop3 hop4 hop5 hop6 hop7
  rw[Bool.and_eq_true]at h7
  exact zQ (by assumption) R hd hk (by assumption) h1 h2 h3 h4 h5 (Nat.eq_of_beq_eq_true h6) (Nat.le_of_ble_eq_true h7.2) h7.1 hop8
 ·exact Pu (by assumption) R hd hk hop
 ·exact N6 (by assumption) R hd hk hop
 ·exact Fy (by assumption) R hd hk hop
 ·exact NZ (by assumption) R hd hk hop
 ·exact Pw (by assumption) R hd hk hop
 ·refine Ir (by assumption) R hd hk hop fun e l h1 h2 h3 h4 h5 h6=>Fz (by assumption) R hd hk h1 h2 h3 h4 h5 h6
 ·split at hop<;>try(simp at hop;done)
  rename_i hni hu
  exact vm (by assumption) hu (fun ms e=>hni ms (by first|exact e|rw[hu,e])) R hd hk hop
 ·split at hop<;>try(simp at hop;done)
  split at hop<;>try(simp at hop;done)
  exact Fx (by assumption) (by assumption) R hd hk hop
 ·split at hop<;>try(simp at hop;done)
  exact N5 (by assumption) R hd hk hop
 ·exact BW (by assumption) R hd hk hop
 ·exact N2 (by assumption) R hd hk hop
 ·exact BX (by assumption) R hd hk hop
 ·exact N3 (by assumption) R hd hk hop
 ·exact It (by assumption) R hd hk hop
 ·split at hop<;>try(simp at hop;done)
  exact N4 (by assumption) R hpk (by assumption) hop
 ·exact zS (by assumption) R hd hk hop
 ·split at hop<;>try(simp at hop;done)
  exact Iu (by assumption) R hd hk hop
 ·exact zR (.inl (by assumption)) R hd hk hop
 ·exact zR (.inr (by assumption)) R hd hk hop
 ·exact Lq (by assumption) R hd hk hop
 ·split at hop
  ·split at hop
   ·split at hop<;>try(simp at hop;done)
    exact QT (by assumption) (by assumption) (by assumption) (by assumption) R hd hk hop
   ·split at hop<;>try(simp at hop;done)
    rename_i c hc hb x y t xt hx ht
    exact Ln (ts:=[xt]) (by assumption) (by assumption) hx ht R hd hk (by simp) hop
   ·split at hop<;>try(simp at hop;done)
    exact QU (by assumption) (by assumption) (by assumption) R hd hk hop
   ·split at hop<;>try(simp at hop;done)
    exact QV (by assumption) (by assumption) (by assumption) R hd hk hop
   ·simp at hop
  ·obtain⟨hdis,hop2⟩:=aJ.1 hop
   clear hop
   split at hop2
   ·rename_i f caps he
    have hv:=cx R he
    simp only[VR]at hv
    obtain⟨vs,e,hl⟩:=hv
    refine Iq (by assumption) (by assumption) R hd hk hpk hrho hkn hdis e ?_ hop2
    generalize vs.toList=vl at hl
    clear hop2 he e
    induction caps generalizing vl with
    |nil=>simpa[bR,VRL]using hl
    |cons c caps ih=>
     simp only[VRL]at hl
     obtain⟨v,r,rfl,h1,h2⟩:=hl
     simp only[List.map_cons,bR]
     exact⟨v,r,rfl,by simp,by simpa[LVR]using h1,ih r h2⟩
   ·rename_i f caps he
    have hv:=fun x (e:evA h s.fr x= .lclo f caps)=>e▸(a8 R h x).1
    replace hv:=hv _ he
    simp only[LVR]at hv
    obtain⟨vs,e,hl⟩:=hv
    exact Iq (by assumption) (by assumption) R hd hk hpk hrho hkn hdis e hl hop2
   ·simp at hop2
  ·simp at hop
 ·simp at hop
theorem KOK.ext {G1:Gh}{s1:S}{μ1:Mu}(E:Ext L (ax G w s μ a.tmps) G w G1 w (ax G1 w s1 μ1 a.tmps)){dst:Option Tmp}(hk:KOK L G w s μ a dst k r K):KOK L G1 w s1 μ1 a dst k r K:=
 fun v s' μ' cv w' G' h R E'=>hk v s' μ' cv w' G' h R (E.trans E')
theorem POK.ext {G1:Gh}{s1:S}{μ1:Mu}(E:Ext L (ax G w s μ a.tmps) G w G1 w (ax G1 w s1 μ1 a.tmps))(hk:POK L G w s μ a p r Q):POK L G1 w s1 μ1 a p r Q:=
 fun v s' μ' cv w' G' h R hv E'=>hk v s' μ' cv w' G' h R hv (E.trans E')
theorem nw (R:Rel G L s μ a.tmps w)(hd: ∀d,o.dst=some d→d<a.tmps.size)(hk:KOK L G w s μ a o.dst k r K)(hpk:POK L G w s μ a p r Q)(hrho:el P W0 ρ)(hkn:Kn W0 w (ax G w s μ a.tmps))
  (hop:opK P ρ h o s μ k p=some r):o.wp P a w K Q:=by
 unfold opK at hop
 obtain⟨s1,h1,hop⟩:=ab.1 hop
 obtain⟨s2,h2,hop⟩:=ab.1 hop
 obtain⟨G1,R1,E1⟩:=qj h1 R
 obtain⟨G2,R2,E2⟩:=mI h2 R1
 exact Hj R2 hd (hk.ext (E1.trans E2)) (hpk.ext (E1.trans E2)) hrho (hkn.ext (E1.trans E2)) hop
end
end Go.Abs
set_option linter.unusedVariables false
set_option linter.unusedSimpArgs false
namespace Go.Abs
open Go
section
variable {P:Program}{W0:World}{ρ:Rho}{α:Type}{L:Nat}{H:Hints}{rg:Nat}{ops:Array Oper}{r:α}{Q:Exit→Act→World→Prop}
structure Keep where
 ds:List Deferred
 kp:Option (Nat×Value)
def Keep.at (K:Keep)(a:Act):Prop:=a.defers=K.ds∧ ∀t v,K.kp=some (t,v)→a.tmps.getD t undef=v
def Keep.slot (K:Keep):Option Nat:=match K.kp with|some q=>some q.1|none=>none
def Keep.lets (K:Keep)(d:Nat):Prop:= ∀t v,K.kp=some (t,v)→d≠t
theorem Keep.put {K:Keep}{a:Act}(h:K.at a){dst:Option Tmp}{v:Value}(hd: ∀d,dst=some d→K.lets d):K.at (a.put dst v):=by
 cases dst with
 |none=>exact h
 |some d=>
  refine⟨h.1,fun t u e=> ?_⟩
  have hne:=hd d rfl t u e
  rw[←h.2 t u e]
  simp only[Act.put,Array.getD_eq_getD_getElem?,Array.getElem?_setIfInBounds]
  rw[if_neg hne]
def EY {α:Type}(L:Nat)(G:Gh)(w:World)(T:Nat→Prop)(n:Nat)(ds:Keep)(k:S→Mu→Option α)(r:α)(Q:Exit→Act→World→Prop):Prop:=
 ∀s μ a w' G',k s μ=some r→Rel G' L s μ a.tmps w'→Ext L T G w G' w' (ax G' w' s μ a.tmps)→a.tmps.size=n→ds.at a→Q .normal a w'
def NO {α:Type}(L:Nat)(G:Gh)(w:World)(T:Nat→Prop)(n:Nat)(ds:Keep)(p:CV→S→Mu→Option α)(r:α)(Q:Exit→Act→World→Prop):Prop:=
 ∀v s μ pv a w' G',p v s μ=some r→Rel G' L s μ a.tmps w'→VR G' w' v pv→Ext L T G w G' w' (ax G' w' s μ a.tmps)→a.tmps.size=n→ds.at a→Q (.panic [{v:=pv,recovered:=false}]) a w'
theorem MY (g:Fr)(t:Nat)(v:LV)(h:g t=v):upd g t v=g:=by
 funext u
 by_cases hu:u=t
 ·subst hu;rw[gg,h]
 ·rw[fp g v hu]
theorem S.set_self (s:S)(t:Nat)(v:LV)(h:s.fr t=v):s.set t v=s:=by
 unfold S.set
 rw[MY s.fr t v h]
theorem i7 (a:Act)(d:Option Tmp)(v:Value):(a.put d v).tmps.size=a.tmps.size∧(a.put d v).defers=a.defers:=by
 cases d<;>simp[Act.put]
theorem wz {G:Gh}{w:World}{s:S}{μ:Mu}{a:Act}(R:Rel G L s μ a.tmps w){j d:Nat}{b:Bool}(hd:lS ops j=some d)(hlt: ∀(i:Nat) (o:Oper),ops[i]? =some o→ ∀d,o.dst=some d→d<a.tmps.size)
  (hb:aQ (s.fr d)=some b):yielded ops a.tmps j=some b:=by
 have hv:=R.fr d
 rw[fh hb]at hv
 simp only[LVR,VR]at hv
 unfold lS at hd
 cases ho:ops[j]? with
 |none=>rw[ho]at hd;simp at hd
 |some o=>
  rw[ho]at hd
  have hd:o.dst=some d:=hd
  have hsz:=hlt j o ho d hd
  have:a.tmps[d]? =some (.bool b):=by
   rw[←hv,Array.getD_eq_getD_getElem?,Array.getElem?_eq_getElem hsz]
   rfl
  simp[yielded,ho,hd,this]
theorem lD {v:LV}{b:Bool}(h:fY v=some (some b)):aQ v=some b:=by
 unfold fY at h
 split at h
 ·simpa[aQ]using h
 ·simp at h
 ·simp at h
theorem yA {v:LV}(h:fY v=some none): ∃cs,v= .cv (.v (.tuple cs)):=by
 unfold fY at h
 split at h
 ·simp at h
 ·exact⟨_,rfl⟩
 ·simp at h
theorem r9 {G:Gh}{w:World}{s:S}{μ:Mu}{a:Act}(R:Rel G L s μ a.tmps w){j d:Nat}(hd:lS ops j=some d)(hlt: ∀(i:Nat) (o:Oper),ops[i]? =some o→ ∀d,o.dst=some d→d<a.tmps.size)
  (hb:fY (s.fr d)=some none):yielded ops a.tmps j=none:=by
 have hv:=R.fr d
 obtain⟨cs,e⟩:=yA hb
 rw[e]at hv
 simp only[LVR,VR]at hv
 unfold lS at hd
 cases ho:ops[j]? with
 |none=>rw[ho]at hd;simp at hd
 |some o=>
  rw[ho]at hd
  have hd:o.dst=some d:=hd
  have hsz:=hlt j o ho d hd
  have:a.tmps[d]? =some (.tuple cs):=by
   rw[←hv,Array.getD_eq_getD_getElem?,Array.getElem?_eq_getElem hsz]
   rfl
  simp[yielded,ho,hd,this]
theorem Rel.skip {G:Gh}{w:World}{s:S}{μ:Mu}{a:Act}(R:Rel G L s μ a.tmps w)(dst:Option Tmp)(hd: ∀d,dst=some d→d<a.tmps.size):
  Rel G L (s.put dst (.cv (.v undef))) μ (a.put dst undef).tmps w∧Ext L (ax G w s μ a.tmps) G w G w (ax G w (s.put dst (.cv (.v undef))) μ (a.put dst undef).tmps):=
 cN R (Ext.refl G w fun _ h=>h) (by simp[LVR,VR]) (fun b hb=>by simp[aD]at hb) hd
theorem gc (hrho:el P W0 ρ){T:Nat→Prop}{G0:Gh}{w0:World}{n:Nat}{ds:Keep}{k:S→Mu→Option α}{p:CV→S→Mu→Option α}(hlt: ∀(i:Nat) (o:Oper),ops[i]? =some o→ ∀d,o.dst=some d→d<n∧ds.lets d)
  (hkn:Kn W0 w0 T) (hk:EY L G0 w0 T n ds k r Q) (hp:NO L G0 w0 T n ds p r Q):
  ∀(l:List Nat) {G:Gh} {w:World} {s:S} {μ:Mu} {a:Act},eF P ρ H rg ops l s μ k p=some r→Rel G L s μ a.tmps w→Ext L T G0 w0 G w (ax G w s μ a.tmps)→a.tmps.size=n→ds.at a→wpOps P ops Q l a w
 |[],G,w,s,μ,a,h,R,E,hn,hds=>by
  simp only[eF]at h
  simp only[wpOps]
  exact hk s μ a w G h R E hn hds
 |i::rest,G,w,s,μ,a,h,R,E,hn,hds=>by
  simp only[eF]at h
  simp only[wpOps]
  cases ho:ops[i]? with
  |none=>rw[ho]at h;simp at h
  |some o=>
   rw[ho]at h
   simp only at h ⊢
   have hlt': ∀d,o.dst=some d→d<a.tmps.size:=fun d hd=>by rw[hn];exact(hlt i o ho d hd).1
   have hlt2: ∀(i:Nat) (o:Oper),ops[i]? =some o→ ∀d,o.dst=some d→d<a.tmps.size:=fun i o ho d hd=>by rw[hn];exact(hlt i o ho d hd).1
   have hkok:KOK L G w s μ a o.dst (fun v s μ=>eF P ρ H rg ops rest (s.put o.dst v) μ k p) r (wpOps P ops Q rest):=by
    intro v s' μ' cv w' G' h' R' E'
    exact gc hrho hlt hkn hk hp rest h' R' (E.trans E') (by rw[(i7 a o.dst cv).1];exact hn) (Keep.put hds fun d hd=>(hlt i o ho d hd).2)
   have hpok:POK L G w s μ a p r Q:=fun v s' μ' pv w' G' h' R' hv E'=>hp v s' μ' pv a w' G' h' R' hv (E.trans E') hn hds
   cases hg:o.guard with
   |none=>
    rw[hg]at h
    have hw:Region.wanted o (yielded ops a.tmps)=true:=by simp[Region.wanted,hg]
    rw[if_pos hw]
    exact .inl (nw R hlt' hkok hpok hrho (hkn.ext E) h)
   |some g=>
    rw[hg]at h
    simp only at h
    obtain⟨d,hd,h⟩:=ab.1 h
    obtain⟨q,hq,h⟩:=ab.1 h
    cases q with
    |none=>
     have hy:=r9 R hd hlt2 hq
     obtain⟨j,want⟩:=g
     simp only at hd hy h
     have hw: ¬Region.wanted o (yielded ops a.tmps)=true:=by simp[Region.wanted,hg,hy]
     rw[if_neg hw]
     obtain⟨R2,E2⟩:=R.skip o.dst hlt'
     exact gc hrho hlt hkn hk hp rest h R2 (E.trans E2) (by rw[(i7 a o.dst undef).1];exact hn) (Keep.put hds fun d hd=>(hlt i o ho d hd).2)
    |some b=>
    have hb:=lD hq
    have hy:=wz R hd hlt2 hb
    have hbe:=fh hb
    obtain⟨j,want⟩:=g
    simp only at hd hy h
    cases b with
    |true=>
     rw[S.set_self s d _ hbe]at h
     simp only[cond_true]at h
     cases want with
     |true=>
      have hw:Region.wanted o (yielded ops a.tmps)=true:=by simp[Region.wanted,hg,hy]
      rw[if_pos hw]
      exact .inl (nw R hlt' hkok hpok hrho (hkn.ext E) h)
     |false=>
      have hw: ¬Region.wanted o (yielded ops a.tmps)=true:=by simp[Region.wanted,hg,hy]
      rw[if_neg hw]
      obtain⟨R2,E2⟩:=R.skip o.dst hlt'
      exact gc hrho hlt hkn hk hp rest h R2 (E.trans E2) (by rw[(i7 a o.dst undef).1];exact hn) (Keep.put hds fun d hd=>(hlt i o ho d hd).2)
    |false=>
     rw[S.set_self s d _ hbe]at h
     simp only[cond_false]at h
     cases want with
     |false=>
      have hw:Region.wanted o (yielded ops a.tmps)=true:=by simp[Region.wanted,hg,hy]
      rw[if_pos hw]
      exact .inl (nw R hlt' hkok hpok hrho (hkn.ext E) h)
     |true=>
      have hw: ¬Region.wanted o (yielded ops a.tmps)=true:=by simp[Region.wanted,hg,hy]
      rw[if_neg hw]
      obtain⟨R2,E2⟩:=R.skip o.dst hlt'
      exact gc hrho hlt hkn hk hp rest h R2 (E.trans E2) (by rw[(i7 a o.dst undef).1];exact hn) (Keep.put hds fun d hd=>(hlt i o ho d hd).2)
theorem FG {n:Nat}{ds:Keep}{d:Nat}(h:FF n ds.slot d=true):d<n∧ds.lets d:=by
 unfold FF at h
 split at h
 ·rename_i hb
  refine⟨by simpa[Nat.blt_eq]using hb,fun t v e hdt=> ?_⟩
  simp only[Keep.slot,e]at h
  subst hdt
  simp[Nat.beq_refl]at h
 ·cases h
theorem jT {n:Nat}{ds:Keep}: ∀{l:List Oper},lq n ds.slot l=true→ ∀{i:Nat} {o:Oper},l[i]? =some o→ ∀d,o.dst=some d→d<n∧ds.lets d
 |[],_,i,o,h,d,_=>by simp at h
 |x::r,hl,i,o,h,d,hd=>by
  have key:lq n ds.slot r=true∧ ∀d,x.dst=some d→d<n∧ds.lets d:=by
   simp only[lq]at hl
   split at hl
   ·rename_i e;exact⟨hl,fun d hd=>by rw[e]at hd;cases hd⟩
   ·rename_i d' e
    split at hl
    ·rename_i hb;exact⟨hl,fun d hd=>by rw[e]at hd;injection hd with hd;subst hd;exact FG hb⟩
    ·simp at hl
  cases i with
  |zero=>simp only[List.getElem?_cons_zero,Option.some.injEq]at h;subst h;exact key.2 d hd
  |succ i=>exact jT key.1 (by simpa using h) d hd
end
end Go.Abs
set_option linter.unusedVariables false
set_option linter.unusedSimpArgs false
namespace Go.Abs
open Go
section
variable {α β γ:Type}
theorem aE {x:Option α}{f:α→Option β}{k:β→Option γ}:opt (opt x f) k=opt x fun a=>opt (f a) k:=by
 cases x<;>rfl
theorem bK {b:Bool}{x:Option β}{k:β→Option γ}:opt (ay b x) k=ay b (opt x k):=by
 cases b<;>rfl
theorem eT {k:β→Option γ}:opt (none:Option β) k=none:=rfl
theorem bu {a:β}{k:β→Option γ}:opt (some a) k=k a:=rfl
theorem xZ {d:TypeDesc}{x:LV}{f:CV→Option β}{k:β→Option γ}:opt (iU d x f) k=iU d x fun c=>opt (f c) k:=by
 unfold iU
 cases d<;>exact aE
theorem pV: ∀{ds:List TypeDesc} {cs:List CV} {f:List CV→Option β} {k:β→Option γ},opt (fc ds cs f) k=fc ds cs fun c=>opt (f c) k
 |[],cs,f,k=>by unfold fc;exact aE
 |d::ds,cs,f,k=>by
  unfold fc
  simp only[aE,xZ,pV]
variable {P:Program}
theorem jR {t:TypeId}{x:LV}{f:CV→Option β}{k:β→Option γ}:opt (hZ P t x f) k=hZ P t x fun c=>opt (f c) k:=by
 unfold hZ
 cases ef P t
 ·cases P.underlying t
  ·rfl
  ·exact xZ
 ·simp only[aE,pV]
theorem vN {own:Bool}{t:TypeId}{x:LV}{f:LV→Option β}{k:β→Option γ}:opt (iR P own t x f) k=iR P own t x fun c=>opt (f c) k:=by
 unfold iR
 cases own
 ·exact jR
 ·exact aE
theorem rB: ∀{ts:List TypeId} {xs:List LV} {f:List LV→Option β} {k:β→Option γ},opt (d5 P ts xs f) k=d5 P ts xs fun c=>opt (f c) k
 |[],xs,f,k=>by unfold d5;exact aE
 |t::ts,xs,f,k=>by
  unfold d5
  simp only[aE,vN,rB]
theorem iq {own:Bool}{t:TypeId}{x:LV}{f:LV→Option β}{k:β→Option γ}:opt (dv P own t x f) k=dv P own t x fun c=>opt (f c) k:=by
 unfold dv
 split
 ·simp only[aE,rB]
 ·exact vN
theorem ta {b:Bool}{t:TypeId}{x:LV}{f:LV→Option β}{k:β→Option γ}:opt (js P b t x f) k=js P b t x fun c=>opt (f c) k:=by
 cases b with
 |true=>exact iq
 |false=>rfl
theorem JU {h:OpHint}{t:TypeId}{a:LV}{s:S}{μ:Mu}{f:LV→S→Mu→Option β}{k:β→Option γ}:opt (f8 P h t a s μ f) k=f8 P h t a s μ fun v s μ=>opt (f v s μ) k:=by
 unfold f8
 split
 ·split
  ·rfl
  ·split
   ·simp only[aE,ta]
   ·exact aE
 ·split
  ·simp only[aE]
  ·simp only[aE]
   congr;funext q
   split<;>simp only[aE,iq]
 ·rfl
theorem Gc {h:OpHint}{t:TypeId}{a v:LV}{s:S}{μ:Mu}{f:LV→S→Mu→Option β}{k:β→Option γ}:opt (gp P h t a v s μ f) k=gp P h t a v s μ fun v s μ=>opt (f v s μ) k:=by
 unfold gp
 split
 ·split
  ·rfl
  ·simp only[kH]
   exact aE
 ·split
  ·rfl
  ·simp only[aE,bK]
 ·rfl
theorem oE {h:OpHint}{t:TypeId}{a:LV}{i:Nat}{f:LV→Option β}{k:β→Option γ}:opt (eB P h t a i f) k=eB P h t a i fun c=>opt (f c) k:=by
 unfold eB
 simp only[aE]
 congr;funext q
 split
 ·rfl
 ·split
  ·simp only[aE,pV,bK]
  ·simp only[aE]
 ·rfl
theorem oF {h:OpHint}{t:TypeId}{a:LV}{i:Int}{f:LV→Option β}{k:β→Option γ}:opt (eD P h t a i f) k=eD P h t a i fun c=>opt (f c) k:=by
 unfold eD fO
 split
 ·simp only[aE]
  congr;funext q
  split
  ·exact bK
  ·simp only[aE,jR,bK]
  ·split<;>simp only[aE,jR,bK]
  ·rfl
 ·simp only[aE]
  congr;funext q
  split
  ·exact bK
  ·split<;>simp only[aE,bK]
  ·rfl
 ·rfl
theorem vL {t:TypeId}{a:LV}{i:Int}{f:LV→Option β}{k:β→Option γ}:opt (jG P t a i f) k=jG P t a i fun c=>opt (f c) k:=by
 unfold jG fO
 split
 ·simp only[aE]
 ·split
  ·simp only[aE,bK,jR]
  ·rfl
 ·rfl
theorem vJ {ev:Operand→LV}{x:Option Operand}{d:Int}{f:Int→Option β}{k:β→Option γ}:opt (db ev x d f) k=db ev x d fun c=>opt (f c) k:=by
 unfold db
 cases x
 ·rfl
 ·exact aE
theorem vM {t:TypeId}{x:LV}{lo hi:Option Operand}{ev:Operand→LV}{f:LV→Option β}{k:β→Option γ}:opt (gm P t x lo hi ev f) k=gm P t x lo hi ev fun c=>opt (f c) k:=by
 unfold gm
 split
 ·simp only[aE,vJ]
 ·simp only[aE]
  congr;funext q
  split<;>simp only[aE,vJ,bK,eT]
 ·rfl
theorem sY {h:OpHint}{t:TypeId}{xt:Option TypeId}{x y:LV}{s:S}{μ:Mu}{f:LV→S→Mu→Option β}{k:β→Option γ}:opt (eY P h t xt x y s μ f) k=eY P h t xt x y s μ fun v s μ=>opt (f v s μ) k:=by
 unfold eY
 split
 ·cases xt
  ·simp only[aE,bK,eT]
  ·simp only[aE,bK]
   congr;funext q;congr;funext q;congr;funext q
   split<;>simp only[aE,bK,eT]
 ·rfl
theorem rA {h:OpHint}{src dst:TypeId}{x:LV}{s:S}{μ:Mu}{f:LV→S→Mu→Option β}{k:β→Option γ}:opt (cV P h src dst x s μ f) k=cV P h src dst x s μ fun v s μ=>opt (f v s μ) k:=by
 unfold cV
 split
 ·split<;>simp only[aE,eT]
 ·split
  ·simp only[aE]
  ·split
   ·split
    ·split<;>simp only[aE,bK,eT]
    ·simp only[aE]
   ·rfl
  ·rfl
 ·split
  ·split
   ·simp only[aE,bK]
    congr;funext q
    congr
    split<;>rfl
   ·rfl
  ·rfl
 ·rfl
theorem Mr {x:Option α}{f:α→Option β}{g:Option β}{k:β→Option γ}:opt (optE x f g) k=optE x (fun a=>opt (f a) k) (opt g k):=by cases x<;>rfl
theorem sZ {t:TypeId}{m x y:LV}{s:S}{μ:Mu}{f:LV→S→Mu→Option β}{k:β→Option γ}:opt (gt P t m x y s μ f) k=gt P t m x y s μ fun v s μ=>opt (f v s μ) k:=by
 unfold gt
 simp only[aE]
 congr;funext q;congr;funext q2;congr;funext q3
 split
 ·split<;>first|exact bK|rfl
 ·split<;>first|exact bK|rfl
 ·rfl
theorem Ci {t:TypeId}{m x:LV}{ok:Bool}{s:S}{μ:Mu}{f:LV→Option β}{k:β→Option γ}:opt (ip P t m x ok s μ f) k=ip P t m x ok s μ fun v=>opt (f v) k:=by
 unfold ip fO
 cases ok<;>simp only[aE,bK,Mr,jR]
theorem Ch {x:LV}{t:TypeId}{ok:Bool}{f:LV→Option β}{k:β→Option γ}:opt (ii P x t ok f) k=ii P x t ok fun v=>opt (f v) k:=by
 unfold ii
 split
 ·rfl
 ·split
  ·rfl
  ·simp only[aE]
   congr;funext z
   split
   ·split<;>rfl
   ·rfl
   ·rfl
 ·rfl
theorem AI {op:BinOp}{t:TypeId}{x y:Operand}{a b:LV}{f:CV→Option β}{k:β→Option γ}:opt (nM P op t x y a b f) k=nM P op t x y a b fun c=>opt (f c) k:=by
 unfold nM
 split
 ·simp only[aE]
 ·simp only[aE,bK]
variable {ρ:Rho}
theorem xY {x:Option Out}{f:LV→Mu→Option β}{p:CV→Mu→Option β}{k:β→Option γ}:opt (callK x f p) k=callK x (fun v μ=>opt (f v μ) k) fun v μ=>opt (p v μ) k:=by
 unfold callK
 rw[aE]
 congr;funext q
 cases q<;>rfl
theorem vK {h:OpHint}{t:TypeId}{g:FuncId}{args:List LV}{s:S}{μ:Mu}{f:LV→S→Mu→Option β}{p:CV→S→Mu→Option β}{k:β→Option γ}:
  opt (fE P ρ h t g args s μ f p) k=fE P ρ h t g args s μ (fun v s μ=>opt (f v s μ) k) fun v s μ=>opt (p v s μ) k:=by
 unfold fE
 split
 ·simp only[bK,xY,iq]
 ·simp only[aE,xY,iq]
theorem LT {h:OpHint}{o:Oper}{s:S}{μ:Mu}{f:LV→S→Mu→Option β}{p:CV→S→Mu→Option β}{k:β→Option γ}:
  opt (cH P ρ h o s μ f p) k=cH P ρ h o s μ (fun v s μ=>opt (f v s μ) k) fun v s μ=>opt (p v s μ) k:=by
 unfold cH
 dsimp only
 split
 ·rfl
 ·rfl
 ·exact aE
 ·exact aE
 ·exact aE
 ·simp only[aE]
 ·split
  ·simp only[aE,bK]
   congr;funext q;congr;funext q;congr;funext q;congr;funext q
   congr
   split<;>rfl
  ·rfl
 ·exact JU
 ·exact Gc
 ·simp only[aE,bK]
 ·exact AI
 ·exact aE
 ·exact rA
 ·split<;>simp only[aE,eT]
 ·split
  ·split<;>rfl
  ·rfl
 ·split
  ·exact vM
  ·rfl
 ·exact oE
 ·exact aE
 ·simp only[aE,oF]
 ·simp only[aE,vL]
 ·simp only[aE]
 ·split<;>rfl
 ·exact Ch
 ·split<;>rfl
 ·exact sZ
 ·exact sZ
 ·exact Ci
 ·split
  ·split
   ·split<;>simp only[aE,eT]
   ·split
    ·exact sY
    ·rfl
   ·split<;>simp only[aE,eT]
   ·split<;>simp only[aE,eT]
   ·rfl
  ·rw[bK]
   congr
   split
   ·exact vK
   ·exact vK
   ·rfl
  ·rfl
 ·rfl
def bf (P:Program)(ρ:Rho)(h:OpHint)(o:Oper)(s:S)(μ:Mu):Option (LV×S×Mu):=cH P ρ h o s μ (fun v s μ=>some (v,s,μ)) fun _ _ _=>none
theorem Ke {h:OpHint}{o:Oper}{s:S}{μ:Mu}{f:LV→S→Mu→Option β}:cH P ρ h o s μ f (fun _ _ _=>none)=opt (bf P ρ h o s μ) fun q=>f q.1 q.2.1 q.2.2:=by
 unfold bf
 rw[LT]
 rfl
end
end Go.Abs
