/-
  The statement ExprChecksCardSaid, proved; part 3 of 10 of its proof.
-/
import Derived.Test.YtmemoghbijcebaaGreatDoorP1
import Derived.MapKept
set_option linter.all false
set_option linter.unusedSectionVars false
set_option linter.unusedVariables false
set_option linter.unusedSimpArgs false
namespace Go.Abs
open Go
section
variable {P:Program}{ρ:Rho}{α:Type}{L:Nat}{G:Gh}{w:World}{s:S}{μ:Mu}{a:Act}{o:Oper}{h:OpHint}{k:LV→S→Mu→Option α}{p:CV→S→Mu→Option α}{r:α}{K:Act→World→Prop}{Q:Exit→Act→World→Prop}
theorem VRL_app: ∀{cs ds:List CV} {us vs:List Value},VRL G w cs us→VRL G w ds vs→VRL G w (cs++ds) (us++vs)
 |[],ds,us,vs,h,h'=>by simp only[VRL]at h;subst h;simpa using h'
 |c::cs,ds,us,vs,h,h'=>by
  simp only[VRL,List.cons_append]at h ⊢
  obtain⟨v,r,rfl,h1,h2⟩:=h
  exact⟨v,r++vs,rfl,h1,VRL_app h2 h'⟩
theorem pA {b s:Nat}: ∀{off:Nat} {xs:List CV},EL G w b s off xs→(∀x∈xs,x.cells.length=s)→ ∃vs,VRL G w (xs.flatMap CV.cells) vs∧ ∀(j:Nat) v,vs[j]? =some v→w.cell? ⟨b,off+j,none⟩=some v∧off+j<G.O b
 |off,[],_,_=>⟨[],by simp[VRL],fun j v hv=>by simp at hv⟩
 |off,x::xs,h,hs=>by
  have hx:=BY h 0 x rfl
  have h2:EL G w b s (off+s) xs:=by
   have:=zS 1 h
   simpa using this
  obtain⟨vs,h3,h4⟩:=pA h2 fun y hy=>hs y (List.mem_cons_of_mem _ hy)
  simp only[Nat.zero_mul,Nat.add_zero]at hx
  have hl:=hs x (by simp)
  have h5: ∃us,VRL G w x.cells us∧ ∀(j:Nat) v,us[j]? =some v→w.cell? ⟨b,off+j,none⟩=some v∧off+j<G.O b:=by
   obtain⟨us,h6,h7⟩:=zR hx
   refine⟨us,h6,fun j v hv=>⟨h7 j v hv,?_⟩⟩
   have hj:j<us.length:=(List.getElem?_eq_some_iff.1 hv).1
   have:=VRL_len h6
   obtain⟨v',_,h8,_⟩:=Co hx j (getElem x.cells j (by omega)) (by simp)
   exact h8
  obtain⟨us,h6,h7⟩:=h5
  have hus:=VRL_len h6
  refine⟨us++vs,?_,fun j v hv=> ?_⟩
  ·simp only[List.flatMap_cons]
   exact VRL_app h6 h3
  ·by_cases hj:j<us.length
   ·rw[List.getElem?_append_left hj]at hv
    exact h7 j v hv
   ·rw[List.getElem?_append_right (by omega)]at hv
    have:=h4 (j-us.length) v hv
    rw[show off+s+(j-us.length)=off+j by omega]at this
    exact this
theorem wy: ∀{xs:List CV},(∀x∈xs,eJ x=true)→ ∀{vs:List Value},VRL G w (xs.flatMap CV.cells) vs→ ∀v∈vs,v.oneCell'=true
 |[],_,vs,h,v,hv=>by simp only[List.flatMap_nil,VRL]at h;subst h;simp at hv
 |x::xs,hs,vs,h,v,hv=>by
  have hx:=hs x (by simp)
  have key: ∀(cs ds:List CV) (vs:List Value),VRL G w (cs++ds) vs→ ∃us ws,vs=us++ws∧VRL G w cs us∧VRL G w ds ws:=by
   intro cs
   induction cs with
   |nil=>intro ds vs h;exact⟨[],vs,rfl,by simp[VRL],by simpa using h⟩
   |cons c cs ih=>
    intro ds vs h
    simp only[List.cons_append,VRL]at h
    obtain⟨v,r,rfl,h1,h2⟩:=h
    obtain⟨us,ws,rfl,h3,h4⟩:=ih ds r h2
    exact⟨v::us,ws,rfl,by simp only[VRL];exact⟨v,us,rfl,h1,h3⟩,h4⟩
  simp only[List.flatMap_cons]at h
  obtain⟨us,ws,rfl,h1,h2⟩:=key _ _ _ h
  rcases List.mem_append.1 hv with hv|hv
  ·unfold eJ at hx
   split at hx
   ·exact ng hx h1 v hv
   ·rename_i c hc
    have hcc:x.cells=[x]:=gG (by intro cs e;exact hc cs e)
    rw[hcc]at h1
    exact ng (cs:=[x]) (by simp only[de,hx]) h1 v hv
  ·exact wy (fun y hy=>hs y (List.mem_cons_of_mem _ hy)) h2 v hv
structure Appends (P:Program) (w:World) (xt:TypeId) (y:Value) (size m:Nat) (news:List Value):Prop where
 type: ∃d,P.underlying xt=some d∧ ∀k,d≠ .int k
 len: ∀w',(Builtin.lenOf y).run P w'= .ok m w'
 cells: ∀w',w'.heap=w.heap→(Builtin.firstCells size m y).run P w'= .ok news.toArray w'
 size:news.length=m*size
theorem vS {t ty e xt:TypeId}{i:TypeInfo}{y:Value}{m:Nat}{news:List Value}(ht:P.underlying t=some (.slice e))(hi:P.info? e=some i)(A:Appends P w xt y i.size m news)
  {g sLen sCap:Nat} {cur:Array Value} {e':TypeId} {fz:Nat×Nat} (hg:w.heap[g]? =some (.cells cur e' fz)) (hfz:ec cur fz) (h1: ∀u∈news,u.oneCell'=true) (hroom:sLen+m≤sCap) (hfit:sLen*i.size+news.length≤cur.size):
  (Builtin.append_ #[t,xt] ty #[.slice (some ⟨g,0,none⟩) sLen sCap,y]).run P w= .ok (.slice (some ⟨g,0,none⟩) (sLen+m) sCap) (w.setRow g (bL cur (sLen*i.size) news)):=by
 obtain⟨d,hd,hni⟩:=A.type
 have hst:=lK (P:=P) g (sLen*i.size) e' fz news 0 cur w hg hfz (by simpa using hfit) h1
 have hf:=A.cells w rfl
 have hn:(match d with| .int _=>true|_=>false)=false:=by cases d<;>first|rfl|exact absurd rfl (hni _)
 simp only[Nat.add_zero]at hst
 simp[Builtin.append_,run_underlying ht,run_underlying hd,sizeOf,typeInfo,hi,A.len,hroom,hf,Addr.add_lit,hst,hn]
theorem vQ {t ty e xt:TypeId}{i:TypeInfo}{z:Value}{y:Value}{m:Nat}{news:List Value}(ht:P.underlying t=some (.slice e))(hi:P.info? e=some i)(hz:i.zero=some z)(A:Appends P w xt y i.size m news)
  {v:Value} {b:Option Addr} {sLen sCap:Nat} {olds:List Value} (holds: ∀w',w'.heap=w.heap→(Builtin.firstCells i.size sLen (.slice b sLen sCap)).run P w'= .ok olds.toArray w')
  (hg:sCap<sLen+m) (h63:((sLen+m:Nat):Int)≤9223372036854775807) (hfit:Builtin.nextslicecap (sLen+m) sCap*i.bytes≤281474976710656):
  (Builtin.append_ #[t,xt] ty #[.slice b sLen sCap,y]).run P w=
   .ok (.slice (some ⟨w.heap.size,0,none⟩) (sLen+m) (grownCap w (sLen+m) sCap e))
    (w.drew.alloc (.cells (olds.toArray++news.toArray++Builtin.zeroCells z.cells (grownCap w (sLen+m) sCap e-(sLen+m))) e)):=by
 obtain⟨d,hd,hni⟩:=A.type
 have hn0:(match d with| .int _=>true|_=>false)=false:=by cases d<;>first|rfl|exact absurd rfl (hni _)
 have hn: ¬(sLen+m≤sCap):=by omega
 have h63': ¬(9223372036854775807<((sLen:Int)+(m:Int))):=by omega
 have h48': ¬(281474976710656<Builtin.nextslicecap (sLen+m) sCap*i.bytes):=by omega
 have hf:=A.cells w.drew rfl
 have hfo:=holds w.drew rfl
 simp[Builtin.append_,run_underlying ht,run_underlying hd,hn0,sizeOf,typeInfo,zeroValue,hi,hz,A.len,hn,h63',h48',Question.forced,hf,hfo,newRow,grownCap]
 congr 2
 apply Array.ext'
 simp[List.append_assoc]
theorem vR {t ty e xt:TypeId}{i:TypeInfo}{y:Value}(ht:P.underlying t=some (.slice e))(hi:P.info? e=some i)(A:Appends P w xt y i.size 0 []):
  (Builtin.append_ #[t,xt] ty #[.slice none 0 0,y]).run P w= .ok (.slice none 0 0) w:=by
 obtain⟨d,hd,hni⟩:=A.type
 have hn0:(match d with| .int _=>true|_=>false)=false:=by cases d<;>first|rfl|exact absurd rfl (hni _)
 simp[Builtin.append_,run_underlying ht,run_underlying hd,hn0,sizeOf,typeInfo,hi,A.len,A.cells w rfl]
theorem FR {G0:Gh}{w0:World}{T0:Nat→Prop}(R:Rel G L s μ a.tmps w)(E:Ext L T0 G0 w0 G w (aB G w s μ a.tmps))(hd: ∀d,o.dst=some d→d<a.tmps.size)
  {t ty e xt:TypeId} {i:TypeInfo} {z:Value} {u y:Value} {m:Nat} {news:List Value} {xs ys:List CV} (ht:P.underlying t=some (.slice e)) (hi:P.info? e=some i) (hz:i.zero=some z) (hzs:z.cells.size=i.size)
  (hb1:1≤i.size) (hb2:i.bytes≤128) (A:Appends P w xt y i.size m news) (hy:VRL G w (ys.flatMap CV.cells) news) (hm:ys.length=m)
  (hxs: ∀x∈xs,x.cells.length=i.size∧eJ x=true) (hys: ∀x∈ys,x.cells.length=i.size∧eJ x=true) (hsm:xs.length+ys.length≤1099511627776) (hbt:(Nat.beq e 5||fZ ys)=true)
  (hu:km G w xs u) (hown: ∀b,aH (.osl xs) u b→(∀l,¬ay G w s.fr a.tmps (μ++[s.lam]) l b)∧(∀lev i,aK (aE (μ++[s.lam]) lev i)→G.β lev i≠b)∧(T0 b∨w0.heap.size≤b)):
  ∃cv w' G',(Builtin.append_ #[t,xt] ty #[u,y]).run P w= .ok cv w'∧Rel G' L (s.put o.dst (.osl (xs++ys))) μ (a.put o.dst cv).tmps w'∧Ext L T0 G0 w0 G' w' (aB G' w' (s.put o.dst (.osl (xs++ys))) μ (a.put o.dst cv).tmps):=by
 have hnl:news.length=ys.length*i.size:=by rw[A.size,hm]
 have hone: ∀u∈news,u.oneCell'=true:=wy (fun x hx=>(hys x hx).2) hy
 have grown: ∀(b:Option Addr) (cap:Nat) (olds:List Value),u= .slice b xs.length cap→cap<xs.length+m→ys≠[]→VRL G w (xs.flatMap CV.cells) olds→
   (∀w',w'.heap=w.heap→(Builtin.firstCells i.size xs.length (.slice b xs.length cap)).run P w'= .ok olds.toArray w')→
   ∃cv w' G',(Builtin.append_ #[t,xt] ty #[u,y]).run P w= .ok cv w'∧Rel G' L (s.put o.dst (.osl (xs++ys))) μ (a.put o.dst cv).tmps w'∧Ext L T0 G0 w0 G' w' (aB G' w' (s.put o.dst (.osl (xs++ys))) μ (a.put o.dst cv).tmps):=by
  intro b cap olds hu' hcap hyne hox hol
  subst hu'
  have hmul:(xs.length+m)*i.bytes≤(xs.length+m)*128:=Nat.mul_le_mul_left _ hb2
  have hrun:=vQ (P:=P) (w:=w) (ty:=ty) (v:=y) ht hi hz A hol hcap (by omega) (growslice_fits hcap (by omega))
  obtain⟨R2,hO2⟩:=R.drew
  have E2:Ext L T0 G0 w0 G w.drew (aB G w.drew s μ a.tmps):=by
   refine E.drew.weaken (fun _ h=>h) fun b hb=> ?_
   rcases hb with⟨l,hb⟩|hb
   ·exact .inl ⟨l,hO2 l b hb⟩
   ·exact .inr hb
  have hge:=grownCap_ge w (xs.length+m) cap e
  have hcm:grownCap w (xs.length+m) cap e≤maxLen:=grownCap_le_maxLen w (xs.length+m) cap e (by unfold maxLen;omega)
  have hol2:=VRL_len hox
  have hfl:=flat_len (fun x hx=>(hxs x hx).1)
  have hall: ∀x∈xs++ys,x.cells.length=i.size:=fun x hx=>by
   rcases List.mem_append.1 hx with hx|hx
   ·exact(hxs x hx).1
   ·exact(hys x hx).1
  have hlen:(xs++ys).length=xs.length+m:=by rw[List.length_append,hm]
  generalize hcur:olds.toArray++news.toArray++Builtin.zeroCells z.cells (grownCap w (xs.length+m) cap e-(xs.length+m))=cur at hrun
  have hcs:cur.size=grownCap w (xs.length+m) cap e*i.size:=by
   rw[←hcur]
   simp only[Array.size_append,List.size_toArray,size_zeroCells,hzs,hnl,←hol2,hfl,hm]
   rw[←Nat.add_mul,←Nat.add_mul]
   congr 1
   omega
  have hgetl: ∀(j:Nat) v,(olds++news)[j]? =some v→cur.getD j undef=v:=by
   intro j v hv
   have hj:j<(olds++news).length:=(List.getElem?_eq_some_iff.1 hv).1
   rw[←hcur,Array.getD_eq_getD_getElem?,←Array.getElem?_toList]
   simp only[Array.toList_append,List.append_assoc]
   rw[←List.append_assoc,List.getElem?_append_left (by simpa using hj),hv]
   rfl
  obtain ⟨G1, R3, E3⟩ := il (o := o) (n := (xs ++ ys).length * i.size) (ob := .cells cur e) (v := .osl (xs ++ ys)) (cv := .slice (some ⟨w.heap.size, 0, none⟩) (xs.length + m) (grownCap w (xs.length + m) cap e)) R2 E2 hd (fun hle => by
   simp only[LVR]
   refine .inr ⟨w.heap.size,grownCap w (xs.length+m) cap e,cur,e,i.size,by rw[hlen],heap_alloc_new w.drew _,by omega,hcm,by omega,hall,fun h0=> ?_,?_,by rw[show w.heap.size=w.drew.heap.size from rfl,cP],F0 hbt hyne⟩
   ·have:=congrArg List.length h0
    rw[hlen]at this
    simp only[List.length_nil]at this
    omega
   ·have hvl:VRL G w ((xs++ys).flatMap CV.cells) (olds++news):=by
     rw[List.flatMap_append];exact VRL_app hox hy
    obtain⟨hl2,hg2⟩:=dp hvl
    refine EL_of (vs:=olds++news) hall (e8 hl2 fun j c v hc hv=> ?_) fun j v hv=> ?_
    ·obtain⟨v',hv',hr⟩:=hg2 j c hc
     rw[hv]at hv'
     injection hv' with hv'
     subst hv'
     exact bi hle c v (bi (G:=G) (w:=w) (G':=G) (w':=w.drew) ⟨fun _ _ _ h hb=>⟨h,hb⟩,fun _ _ h=>⟨h,rfl,rfl⟩,fun _ _ _ h hc=>⟨h,hc⟩,fun b cur e fz h=>⟨cur,fz,h,rfl⟩⟩ c v hr)
    ·have hj:j<(olds++news).length:=(List.getElem?_eq_some_iff.1 hv).1
     have hj2:j<(xs++ys).length*i.size:=by
      rw[←flat_len hall,hl2];exact hj
     have hj3:j<cur.size:=by
      rw[hcs]
      refine Nat.lt_of_lt_of_le hj2 (Nat.mul_le_mul_right _ ?_)
      omega
     rw[Nat.zero_add,show w.heap.size=w.drew.heap.size from rfl,cP]
     refine⟨?_,hj2⟩
     rw[cell_of_heap (heap_alloc_new w.drew (.cells cur e)) hj3,hgetl j v hv]) (fun b hb=>by simpa[aH]using hb.symm)
  exact⟨_,_,G1,hrun,R3,E3⟩
 rcases hu with⟨rfl,rfl⟩|⟨b,cap,cur,e',sz,hue,hb,hc1,hc2,hc3,hc4,hc5,hel,hO,hC⟩
 ·by_cases h0:m=0
  ·subst h0
   have hy0:ys=[]:=List.eq_nil_of_length_eq_zero hm
   subst hy0
   have hn0:news=[]:=List.eq_nil_of_length_eq_zero (by simpa using hnl)
   subst hn0
   have hrun:=vR (P:=P) (w:=w) (ty:=ty) ht hi A
   obtain⟨R2,E2⟩:=cg (dst:=o.dst) (v:= .osl []) (cv:= .slice none 0 0) R E (by simp only[LVR];exact .inl ⟨rfl,rfl⟩) (fun b hb=>by simp[aH]at hb) hd
   exact⟨_,_,G,hrun,R2,E2⟩
  ·exact grown none 0 [] rfl (by simp only[List.length_nil];omega) (fun h=>h0 (by subst h;simpa using hm.symm)) (by simp[VRL]) (fun w' _=>run_firstCells_none w' _ _ _ _)
 ·subst hue
  obtain⟨olds,hox,hoc⟩:=pA hel hc4
  have hsz:xs=[]∨sz=i.size:=by
   cases xs with
   |nil=>exact .inl rfl
   |cons x xs=>exact .inr ((hc4 x (by simp)).symm.trans (hxs x (by simp)).1)
  have hol2:=VRL_len hox
  have hfl:=flat_len (fun x hx=>(hxs x hx).1)
  by_cases hroom:xs.length+m≤cap
  ·
   have hcap0:xs=[]→m=0:=fun h=>by have:=hc5 h;subst h;simp only[List.length_nil]at hroom;omega
   have hfit:xs.length*i.size+news.length≤cur.size:=by
    rcases hsz with h0|h0
    ·have:=hcap0 h0
     subst h0
     rw[hnl,hm,this];simp
    ·subst h0
     rw[hnl,hm,←Nat.add_mul]
     exact Nat.le_trans (Nat.mul_le_mul_right _ hroom) hc3
   have hrun:=vS (P:=P) (w:=w) (ty:=ty) ht hi A hb (kg cur) hone hroom hfit
   obtain⟨ho1,ho2,ho3⟩:=hown b (by simp[aH])
   have hOb:G.O b=xs.length*i.size:=by
    rw[hO]
    rcases hsz with h0|h0
    ·subst h0;simp
    ·rw[h0]
   have hblk: ∀b',b'≠b→(w.setRow b (bL cur (xs.length*i.size) news)).heap[b']? =w.heap[b']? :=fun b' h=>setRow_other w b b' _ h
   have hnh:=setRow_heap w b cur (bL cur (xs.length*i.size) news) e' (0,0) hb
   have hle:Le G w (G.setO b ((xs++ys).length*i.size)) (w.setRow b (bL cur (xs.length*i.size) news)):=by
    refine⟨fun b' es clk h hb'=> ?_,fun _ _ h=>⟨h,rfl,rfl⟩,fun b' off v h hc=> ?_,fun b' cur2 e2 fz2 h=> ?_⟩
    ·have hne:b'≠b:=fun e=>by subst e;rw[hb]at hb';cases hb'
     exact⟨by rw[bS hne];exact h,by rw[hblk b' hne];exact hb'⟩
    ·by_cases hne:b'=b
     ·subst hne
      rw[cP]
      refine⟨?_,?_⟩
      ·rw[hOb]at h
       refine Nat.lt_of_lt_of_le h (Nat.mul_le_mul_right _ ?_)
       simp
      ·rw[hOb]at h
       have hcur:off<cur.size:=by omega
       rw[cell_of_heap hb hcur]at hc
       rw[cell_of_heap hnh (by rw[cM];exact hcur),eE (.inl h)]
       exact hc
     ·refine⟨by rw[bS hne];exact h,?_⟩
      rw[←hc]
      simp only[World.cell?]
      rw[hblk b' hne]
    ·by_cases hne:b'=b
     ·subst hne
      rw[hb]at h
      obtain⟨rfl,rfl,rfl⟩:=(Obj.cells.injEq ..).mp (Option.some.inj h)
      exact⟨_,_,hnh,cM _ _ _⟩
     ·exact⟨cur2,fz2,by rw[hblk b' hne];exact h,rfl⟩
   have hTb: ∀b',fI G w s.fr a.tmps (μ++[s.lam]) b'→b'≠b:=by
    rintro b' (⟨l,hl⟩|⟨lev,j,hl,rfl⟩) e
    ·subst e;exact ho1 l hl
    ·exact ho2 lev j hl e
   obtain⟨R2,hO2⟩:=R.frame hle (fun b' hb'=>⟨hblk b' (hTb b' hb'),bS (hTb b' hb')⟩) (fun _ _ _=>⟨rfl,rfl⟩) rfl
   have E2:Ext L T0 G0 w0 (G.setO b ((xs++ys).length*i.size)) (w.setRow b (bL cur (xs.length*i.size) news)) (aB (G.setO b ((xs++ys).length*i.size)) (w.setRow b (bL cur (xs.length*i.size) news)) s μ a.tmps):=by
    refine⟨E.le.trans hle,E.os,E.tape,E.output,by simpa using E.size,fun b' hb' hn=> ?_,fun b' hb'=> ?_,E.lev⟩
    ·obtain⟨h1,h2⟩:=E.keep b' hb' hn
     have hne:b'≠b:=fun e=>by
      subst e
      rcases ho3 with h|h
      ·exact hn h
      ·omega
     exact⟨(hblk b' hne).trans h1,(bS hne).trans h2⟩
    ·refine E.grow b' ?_
     rcases hb' with⟨l,hl⟩|hl
     ·exact .inl ⟨l,hO2 l b' hl⟩
     ·exact .inr hl
   have hlen:(xs++ys).length=xs.length+m:=by rw[List.length_append,hm]
   have hall: ∀x∈xs++ys,x.cells.length=i.size:=fun x hx=>by
    rcases List.mem_append.1 hx with hx|hx
    ·exact(hxs x hx).1
    ·exact(hys x hx).1
   have hvl:VRL G w ((xs++ys).flatMap CV.cells) (olds++news):=by
    rw[List.flatMap_append];exact VRL_app hox hy
   have hoL:olds.length=xs.length*i.size:=by rw[←hol2,hfl]
   obtain ⟨R3, E3⟩ := cg (dst := o.dst) (v := .osl (xs ++ ys)) (cv := .slice (some ⟨b, 0, none⟩) (xs.length + m) cap) R2 E2 (by
    simp only[LVR]
    refine .inr ⟨b,cap,_,e',i.size,by rw[hlen],hnh,by omega,hc2,?_,hall,fun h0=> ?_,?_,cP,fun hb1 hb2=>hC (rZ xs ys hb1) fun hxn=>hb2 (by subst hxn;have:=hcap0 rfl;rw[List.nil_append];exact List.eq_nil_of_length_eq_zero (by omega))⟩
    ·rw[cM]
     rcases hsz with h0|h0
     ·have:=hc5 h0
      rw[this];simp
     ·rw[←h0];exact hc3
    ·exact hc5 (List.append_eq_nil_iff.1 h0).1
    ·obtain⟨hl2,hg2⟩:=dp hvl
     refine EL_of (vs:=olds++news) hall (e8 hl2 fun j c v hc hv=> ?_) fun j v hv=> ?_
     ·obtain⟨v',hv',hr⟩:=hg2 j c hc
      rw[hv]at hv'
      injection hv' with hv'
      subst hv'
      exact bi hle c v hr
     ·have hj:j<(olds++news).length:=(List.getElem?_eq_some_iff.1 hv).1
      have hj2:j<(xs++ys).length*i.size:=by rw[←flat_len hall,hl2];exact hj
      rw[List.length_append]at hj
      rw[Nat.zero_add,cP]
      refine⟨?_,hj2⟩
      rw[cell_of_heap hnh (by rw[cM];omega)]
      by_cases hjo:j<olds.length
      ·rw[List.getElem?_append_left hjo]at hv
       rw[eE (.inl (by omega))]
       have h1:=(hoc j v hv).1
       rw[Nat.zero_add,cell_of_heap hb (by omega)]at h1
       exact h1
      ·rw[List.getElem?_append_right (by omega)]at hv
       have:=gT (cur:=cur) (off:=xs.length*i.size) (vs:=news) (j:=j-olds.length) hfit (by omega)
       rw[show xs.length*i.size+(j-olds.length)=j by omega]at this
       rw[this,List.getD_eq_getElem?_getD,hv]
       rfl) (fun b' hb'=>by
    have:b=b':=by simpa[aH]using hb'
    subst this
    exact⟨fun l hl=>ho1 l (hO2 l b hl),fun lev j hl=>ho2 lev j hl,ho3⟩) hd
   exact⟨_,_,_,hrun,R3,E3⟩
  ·refine grown (some ⟨b,0,none⟩) cap olds rfl (by omega) (fun hyn=>by subst hyn;simp only[List.length_nil]at hm;omega) hox fun w' hw'=> ?_
   refine run_firstCells_some w' i.size xs.length ⟨b,0,none⟩ xs.length cap olds (by rw[←hol2,hfl]) fun j v hv=> ?_
   have:=(hoc j v hv).1
   rw[dP]
   simp only[World.cell?]at this ⊢
   rw[hw']
   exact this
theorem NA {G0:Gh}{w0:World}{T0:Nat→Prop}(R:Rel G L s μ a.tmps w)(E:Ext L T0 G0 w0 G w (aB G w s μ a.tmps))(hd: ∀d,o.dst=some d→d<a.tmps.size)
  {t ty e xt:TypeId} {i:TypeInfo} {z:Value} {u y:Value} {m:Nat} {news:List Value} {xs:List Value} (ht:P.underlying t=some (.slice e)) (hi:P.info? e=some i) (hz:i.zero=some z) (hzs:z.cells.size=i.size)
  (hs1:i.size=1) (hb2:i.bytes≤128) (A:Appends P w xt y i.size m news) (hone: ∀u∈news,u.oneCell'=true) (hsm:xs.length+news.length≤1099511627776)
  (hu:pL G w xs u) (hown: ∀b,aH (.ost xs) u b→(∀l,¬ay G w s.fr a.tmps (μ++[s.lam]) l b)∧(∀lev i,aK (aE (μ++[s.lam]) lev i)→G.β lev i≠b)∧(T0 b∨w0.heap.size≤b)):
  ∃cv w' G',(Builtin.append_ #[t,xt] ty #[u,y]).run P w= .ok cv w'∧Rel G' L (s.put o.dst (.ost (xs++news))) μ (a.put o.dst cv).tmps w'∧Ext L T0 G0 w0 G' w' (aB G' w' (s.put o.dst (.ost (xs++news))) μ (a.put o.dst cv).tmps):=by
 have hm:news.length=m:=by rw[A.size,hs1,Nat.mul_one]
 have grown: ∀(b:Option Addr) (cap:Nat),u= .slice b xs.length cap→cap<xs.length+m→
   (∀w',w'.heap=w.heap→(Builtin.firstCells i.size xs.length (.slice b xs.length cap)).run P w'= .ok xs.toArray w')→
   ∃cv w' G',(Builtin.append_ #[t,xt] ty #[u,y]).run P w= .ok cv w'∧Rel G' L (s.put o.dst (.ost (xs++news))) μ (a.put o.dst cv).tmps w'∧Ext L T0 G0 w0 G' w' (aB G' w' (s.put o.dst (.ost (xs++news))) μ (a.put o.dst cv).tmps):=by
  intro b cap hu' hcap hol
  subst hu'
  have hmul:(xs.length+m)*i.bytes≤(xs.length+m)*128:=Nat.mul_le_mul_left _ hb2
  have hrun:=vQ (P:=P) (w:=w) (ty:=ty) (v:=y) ht hi hz A hol hcap (by omega) (growslice_fits hcap (by omega))
  obtain⟨R2,hO2⟩:=R.drew
  have E2:Ext L T0 G0 w0 G w.drew (aB G w.drew s μ a.tmps):=by
   refine E.drew.weaken (fun _ h=>h) fun b hb=> ?_
   rcases hb with⟨l,hb⟩|hb
   ·exact .inl ⟨l,hO2 l b hb⟩
   ·exact .inr hb
  have hge:=grownCap_ge w (xs.length+m) cap e
  have hcm:grownCap w (xs.length+m) cap e≤maxLen:=grownCap_le_maxLen w (xs.length+m) cap e (by unfold maxLen;omega)
  have hlen:(xs++news).length=xs.length+m:=by rw[List.length_append,hm]
  generalize hcur:xs.toArray++news.toArray++Builtin.zeroCells z.cells (grownCap w (xs.length+m) cap e-(xs.length+m))=cur at hrun
  have hcs:cur.size=grownCap w (xs.length+m) cap e:=by
   rw[←hcur]
   simp only[Array.size_append,List.size_toArray,size_zeroCells,hzs,hs1,hm]
   omega
  have hgetl: ∀(j:Nat) v,(xs++news)[j]? =some v→cur.getD j undef=v:=by
   intro j v hv
   have hj:j<(xs++news).length:=(List.getElem?_eq_some_iff.1 hv).1
   rw[←hcur,Array.getD_eq_getD_getElem?,←Array.getElem?_toList]
   simp only[Array.toList_append,List.append_assoc]
   rw[←List.append_assoc,List.getElem?_append_left (by simpa using hj),hv]
   rfl
  obtain ⟨G1, R3, E3⟩ := il (o := o) (n := 0) (ob := .cells cur e) (v := .ost (xs ++ news)) (cv := .slice (some ⟨w.heap.size, 0, none⟩) (xs.length + m) (grownCap w (xs.length + m) cap e)) R2 E2 hd (fun hle => by
   simp only[LVR]
   exact .inr ⟨w.heap.size,grownCap w (xs.length+m) cap e,cur,e,by rw[hlen],heap_alloc_new w.drew _,by omega,hcm,by omega,by rw[show w.heap.size=w.drew.heap.size from rfl,cP],hgetl⟩) (fun b hb=>by simpa[aH]using hb.symm)
  exact⟨_,_,G1,hrun,R3,E3⟩
 rcases hu with⟨rfl,rfl⟩|⟨b,cap,cur,e',hue,hb,hc1,hc2,hc3,hO,hC⟩
 ·by_cases h0:m=0
  ·subst h0
   have hn0:news=[]:=List.eq_nil_of_length_eq_zero hm
   subst hn0
   have hrun:=vR (P:=P) (w:=w) (ty:=ty) ht hi A
   obtain⟨R2,E2⟩:=cg (dst:=o.dst) (v:= .ost []) (cv:= .slice none 0 0) R E (by simp only[LVR];exact .inl ⟨rfl,rfl⟩) (fun b hb=>by simp[aH]at hb) hd
   exact⟨_,_,G,hrun,R2,E2⟩
  ·exact grown none 0 rfl (by simp only[List.length_nil];omega) (fun w' _=>run_firstCells_none w' _ _ _ _)
 ·subst hue
  by_cases hroom:xs.length+m≤cap
  ·have hfit:xs.length*i.size+news.length≤cur.size:=by rw[hs1,hm];omega
   have hrun:=vS (P:=P) (w:=w) (ty:=ty) ht hi A hb (kg cur) hone hroom hfit
   obtain⟨ho1,ho2,ho3⟩:=hown b (by simp[aH])
   have hblk: ∀b',b'≠b→(w.setRow b (bL cur (xs.length*i.size) news)).heap[b']? =w.heap[b']? :=fun b' h=>setRow_other w b b' _ h
   have hnh:=setRow_heap w b cur (bL cur (xs.length*i.size) news) e' (0,0) hb
   have hle:Le G w G (w.setRow b (bL cur (xs.length*i.size) news)):=by
    refine⟨fun b' es clk h hb'=> ?_,fun _ _ h=>⟨h,rfl,rfl⟩,fun b' off v h hc=> ?_,fun b' cur2 e2 fz2 h=> ?_⟩
    ·have hne:b'≠b:=fun e=>by subst e;omega
     exact⟨h,by rw[hblk b' hne];exact hb'⟩
    ·have hne:b'≠b:=fun e=>by subst e;omega
     refine⟨h,?_⟩
     rw[←hc]
     simp only[World.cell?]
     rw[hblk b' hne]
    ·by_cases hne:b'=b
     ·subst hne
      rw[hb]at h
      obtain⟨rfl,rfl,rfl⟩:=(Obj.cells.injEq ..).mp (Option.some.inj h)
      exact⟨_,_,hnh,cM _ _ _⟩
     ·exact⟨cur2,fz2,by rw[hblk b' hne];exact h,rfl⟩
   have hTb: ∀b',fI G w s.fr a.tmps (μ++[s.lam]) b'→b'≠b:=by
    rintro b' (⟨l,hl⟩|⟨lev,j,hl,rfl⟩) e
    ·subst e;exact ho1 l hl
    ·exact ho2 lev j hl e
   obtain⟨R2,hO2⟩:=R.frame hle (fun b' hb'=>⟨hblk b' (hTb b' hb'),rfl⟩) (fun _ _ _=>⟨rfl,rfl⟩) rfl
   have E2:Ext L T0 G0 w0 G (w.setRow b (bL cur (xs.length*i.size) news)) (aB G (w.setRow b (bL cur (xs.length*i.size) news)) s μ a.tmps):=by
    refine⟨E.le.trans hle,E.os,E.tape,E.output,by simpa using E.size,fun b' hb' hn=> ?_,fun b' hb'=> ?_,E.lev⟩
    ·obtain⟨h1,h2⟩:=E.keep b' hb' hn
     have hne:b'≠b:=fun e=>by
      subst e
      rcases ho3 with h|h
      ·exact hn h
      ·omega
     exact⟨(hblk b' hne).trans h1,h2⟩
    ·refine E.grow b' ?_
     rcases hb' with⟨l,hl⟩|hl
     ·exact .inl ⟨l,hO2 l b' hl⟩
     ·exact .inr hl
   have hlen:(xs++news).length=xs.length+m:=by rw[List.length_append,hm]
   obtain ⟨R3, E3⟩ := cg (dst := o.dst) (v := .ost (xs ++ news)) (cv := .slice (some ⟨b, 0, none⟩) (xs.length + m) cap) R2 E2 (by
    simp only[LVR]
    refine .inr ⟨b,cap,_,e',by rw[hlen],hnh,by omega,hc2,by rw[cM];exact hc3,hO,fun j v hv=> ?_⟩
    rw[hs1,Nat.mul_one]
    have hj:j<(xs++news).length:=(List.getElem?_eq_some_iff.1 hv).1
    by_cases hjo:j<xs.length
    ·rw[List.getElem?_append_left hjo]at hv
     rw[eE (.inl hjo)]
     exact hC j v hv
    ·rw[List.getElem?_append_right (by omega)]at hv
     rw[hlen]at hj
     have:=gT (cur:=cur) (off:=xs.length) (vs:=news) (j:=j-xs.length) (by omega) (by omega)
     rw[show xs.length+(j-xs.length)=j by omega]at this
     rw[this,List.getD_eq_getElem?_getD,hv]
     rfl) (fun b' hb'=>by
    have:b=b':=by simpa[aH]using hb'
    subst this
    exact⟨fun l hl=>ho1 l (hO2 l b hl),fun lev j hl=>ho2 lev j hl,ho3⟩) hd
   exact⟨_,_,_,hrun,R3,E3⟩
  ·refine grown (some ⟨b,0,none⟩) cap rfl (by omega) fun w' hw'=> ?_
   refine run_firstCells_some w' i.size xs.length ⟨b,0,none⟩ xs.length cap xs (by rw[hs1,Nat.mul_one]) fun j v hv=> ?_
   have hj:j<xs.length:=(List.getElem?_eq_some_iff.1 hv).1
   have:=cell_of_heap (w:=w) (j:=j) hb (by omega)
   rw[hC j v hv]at this
   rw[dP,Nat.zero_add]
   simp only[World.cell?]at this ⊢
   rw[hw']
   exact this
theorem yf {t e xt e':TypeId}{sz:Nat}{ys:List CV}{y:Value}(hu:P.underlying xt=some (.slice e'))(hv:VR G w (.sl ys) y)(hs: ∀x∈ys,x.cells.length=sz):
  ∃news,Appends P w xt y sz ys.length news∧VRL G w (ys.flatMap CV.cells) news:=by
 simp only[VR]at hv
 obtain⟨A,len,cap,rfl,rfl,hlc,hx⟩:=hv
 rcases hx with h0|⟨b,off,sz',rfl,hs',hel⟩
 ·have:ys=[]:=List.eq_nil_of_length_eq_zero h0
  subst this
  refine⟨[],⟨⟨_,hu,fun k=>by simp⟩,fun w'=>rfl,fun w' _=> ?_,by simp⟩,by simp[VRL]⟩
  cases A with
  |none=>exact run_firstCells_none w' _ _ _ _
  |some A=>simp[Builtin.firstCells,loadCells,loadCellsFrom]
 ·obtain⟨news,h1,h2⟩:=pA hel hs'
  have hl:=VRL_len h1
  rw[flat_len hs]at hl
  refine⟨news,⟨⟨_,hu,fun k=>by simp⟩,fun w'=>rfl,fun w' hw'=> ?_,hl.symm⟩,h1⟩
  refine run_firstCells_some w' sz ys.length _ _ _ news hl.symm fun j v hv=> ?_
  have:=(h2 j v hv).1
  rw[dP]
  simp only[World.cell?]at this ⊢
  rw[hw']
  exact this
theorem FS {xt:TypeId}{l:List UInt8}(hu:P.underlying xt=some .string):
  ∃news,Appends P w xt (.string ⟨⟨l⟩⟩) 1 l.length news∧VRL G w ((l.map fun(b:UInt8)=>CV.v (.int .u8 (b.toNat:Int))).flatMap CV.cells) news:=by
 refine⟨eP l,⟨⟨_,hu,fun k=>by simp⟩,fun w'=>rfl,fun w' _=> ?_,by simp[eP]⟩,?_⟩
 ·simp only[Builtin.firstCells]
  have:((⟨⟨l⟩⟩:ByteArray).extract 0 l.length).data=⟨l⟩:=by
   have h2:(⟨⟨l⟩⟩:ByteArray).extract 0 l.length=⟨⟨l⟩⟩:=by
    have:=ByteArray.extract_zero_size (b:=⟨⟨l⟩⟩)
    exact this
   rw[h2]
  rw[this]
  simp[eP]
 ·rw[ri]
  refine e8 (by simp[eP]) fun j c v hc hv=> ?_
  simp only[eP,List.getElem?_map,Option.map_eq_some_iff]at hc hv
  obtain⟨b,hb,rfl⟩:=hc
  obtain⟨b',hb',rfl⟩:=hv
  rw[hb]at hb'
  injection hb' with hb'
  subst hb'
  simp[VR]
theorem Da {e:TypeId}{i:TypeInfo}(hi:P.info? e=some i)(h:j3 P e=true):i.bytes≤128∧1≤i.size:=by
 unfold j3 at h
 rw[hi]at h
 simp only[Bool.and_eq_true]at h
 exact⟨Nat.le_of_ble_eq_true h.1,Nat.le_of_ble_eq_true h.2⟩
theorem rU: ∀{as bs:List CV},de as=true→de bs=true→de (as++bs)=true
 |[],bs,_,h=>h
 |c::r,bs,h1,h2=>by
  simp only[de,List.cons_append]at h1 ⊢
  split at h1
  ·rename_i hc;first|exact rU h1 h2|(simp only[hc];exact rU h1 h2)
  ·cases h1
theorem u0: ∀{xs:List CV},(∀x∈xs,eJ x=true)→de (xs.flatMap CV.cells)=true
 |[],_=>rfl
 |x::xs,h=>by
  simp only[List.flatMap_cons]
  refine rU ?_ (u0 fun y hy=>h y (List.mem_cons_of_mem _ hy))
  have hx:=h x (by simp)
  unfold eJ at hx
  split at hx
  ·exact hx
  ·rename_i c hc
   rw[gG (by intro cs e;exact hc cs e)]
   simp only[de,hx]
theorem U5 {x y:Operand}{c:Call}{t t2:TypeId}(ho:o.op= .call c)(hc:c.callee= .builtin .copy)(hx:c.args.toList=[x,y])(ht:c.argTypes.toList=[t,t2])(R:Rel G L s μ a.tmps w)(hd: ∀d,o.dst=some d→d<a.tmps.size)
  (hk:KOK L G w s μ a o.dst k r K) (hop:yt P t (evA h s.fr x) (evA h s.fr y) (ab h.take s) μ k=some r):o.wp P a w K Q:=by
 obtain⟨R1,E1,hO⟩:=cH R h.take
 have hl:=aQ h.take s
 unfold yt at hop
 split at hop<;>try(simp at hop;done)
 rename_i e hu
 obtain⟨sz,hsz,hop⟩:=ac.1 hop
 split at hop<;>try(simp at hop;done)
 rename_i i off len hex
 split at hop<;>try(simp at hop;done)
 rename_i z cs hob
 obtain⟨hz,hop⟩:=aF.1 hop
 obtain⟨ys,hys,hop⟩:=ac.1 hop
 obtain⟨hg,hop⟩:=aF.1 hop
 have hz:=Nat.eq_of_beq_eq_true hz
 simp only[Bool.and_eq_true]at hg
 obtain⟨hg1,hg2,hg3⟩:=hg
 have hg2:=Nat.le_of_ble_eq_true hg2
 have hg3:=Nat.le_of_ble_eq_true hg3
 have hall:=iw hg1
 have hv:=fm hys (aX R h y).1
 have hvx:=(aX R h x).1
 rw[hex]at hvx
 simp only[LVR]at hvx
 obtain⟨hid,cap,cur,e',fz,hvx,hlc,hcm,hb,hsize⟩:=hvx
 have hargs:c.args= #[x,y]:=by cases ha:c.args;simp_all
 have htys:c.argTypes= #[t,t2]:=by cases ha:c.argTypes;simp_all
 obtain⟨news,hfirst,hlen,hvl⟩: ∃news:List Value,(Builtin.firstCells sz ys.length (a.eval y)).run P w= .ok news.toArray w∧(Builtin.lenOf (a.eval y)).run P w= .ok ys.length w∧VRL G w (ys.flatMap CV.cells) news:=by
  simp only[VR]at hv
  obtain⟨A,ln,cp,he,rfl,hlc',hx'⟩:=hv
  rw[he]
  rcases hx' with h0|⟨b,of,sz',rfl,hs',hel⟩
  ·have:ys=[]:=List.eq_nil_of_length_eq_zero h0
   subst this
   refine⟨[],?_,rfl,by simp[VRL]⟩
   cases A with
   |none=>exact run_firstCells_none w _ _ _ _
   |some A=>simp[Builtin.firstCells,loadCells,loadCellsFrom]
  ·have hsz':ys=[]∨sz'=sz:=by
    cases ys with
    |nil=>exact .inl rfl
    |cons q ys=>exact .inr ((hs' q (by simp)).symm.trans (hall q (by simp)).1)
   obtain⟨news,h1,h2⟩:=pA hel hs'
   have hll:=VRL_len h1
   rw[flat_len fun x hx=>(hall x hx).1]at hll
   refine⟨news,run_firstCells_some w sz ys.length _ _ _ news hll.symm fun j v hv=> ?_,rfl,h1⟩
   rw[dP]
   exact(h2 j v hv).1
 have hnl:=VRL_len hvl
 rw[flat_len fun x hx=>(hall x hx).1]at hnl
 have hw:obW true (ys.length*sz) (.arr z cs) off (.cv (.agg (ys.flatMap CV.cells)))=some (.arr z (bo cs off (ys.flatMap CV.cells))):=by
  have h1:(df (ys.length*sz) (CV.agg (ys.flatMap CV.cells))&&Nat.ble (off+ys.length*sz) cs.length)=true:=by
   simp only[df,CV.cells,eJ,Bool.and_eq_true]
   refine⟨⟨?_,u0 fun x hx=>(hall x hx).2⟩,by rw[Nat.ble_eq];exact hg3⟩
   rw[flat_len fun x hx=>(hall x hx).1]
   exact Nat.beq_refl _
  simp only[obW,bP,opt]
  rw[h1]
  rfl
 obtain⟨w',h1,hrun,R2,E2⟩:=R1.writeW (P:=P) (s1:={ab h.take s with lam:=(ab h.take s).lam.set i (.arr z (bo cs off (ys.flatMap CV.cells)))}) (μ1:=μ) (lev:=L) (i:=i) (off:=off) (cv:= .agg news.toArray)
  (ob:= .arr z cs) (o':= .arr z (bo cs off (ys.flatMap CV.cells))) (v:= .cv (.agg (ys.flatMap CV.cells))) (bb:=true) (n:=ys.length*sz)
  E1 (by rw[←hob,←R.lev];exact br) hw ⟨fun _=>by simp only[LVR,VR];exact⟨_,rfl,hvl⟩,fun e=>by omega⟩ (fun b hb=>by simp[aH]at hb) rfl rfl (by simp) rfl (by rw[←R.lev];exact o2.symm)
 obtain⟨R3,E3⟩:=cg (dst:=o.dst) (v:= .cv (.v (.int .i64 (ys.length:Int)))) (cv:= .int .i64 (ys.length:Int)) R2 E2 (by simp[LVR,VR]) (fun b hb=>by simp[aH]at hb) hd
 refine cm ?_ (hk _ _ _ _ w' G hop R3 E3)
 have hst:(storeCells ⟨G.β L i,off,none⟩ news).run P w= .ok () w':=hrun
 have hmin:Nat.min ys.length len=ys.length:=Nat.min_eq_left hg2
 simp only[execOp,ho,resolve,hc,hargs,htys,Sem.run_bind,Sem.run_pure,Result.andThen_ok,invoke,builtin,List.map_toArray,List.map_cons,List.map_nil]
 have hcp:(Builtin.copy_ #[t,t2] o.type #[a.eval x,a.eval y]).run P w= .ok (.int .i64 (ys.length:Int)) w':=by
  simp[Builtin.copy_,run_underlying hu,hvx,hlen,hmin,db hsz,hfirst,hst,goInt]
 rw[hcp];rfl
theorem QL {x y:Operand}{c:Call}{t:TypeId}{ts:List TypeId}(ho:o.op= .call c)(hc:c.callee= .builtin .append)(hx:c.args.toList=[x,y])(ht:c.argTypes.toList=t::ts)(R:Rel G L s μ a.tmps w)(hd: ∀d,o.dst=some d→d<a.tmps.size)
  (hk:KOK L G w s μ a o.dst k r K) (hts:ts.length≤1) (hop:fL P h t ts.head? (evA h s.fr x) (evA h s.fr y) (ab h.take s) μ k=some r):o.wp P a w K Q:=by
 obtain⟨R1,E1,hO⟩:=cH R h.take
 have hl:=aQ h.take s
 unfold fL at hop
 split at hop<;>try(simp at hop;done)
 rename_i e hu
 obtain⟨sz,hsz,hop1⟩:=ac.1 hop
 obtain⟨hby,hop2⟩:=aF.1 hop1
 obtain⟨zc,hz,hop3⟩:=ac.1 hop2
 obtain⟨hzl,hop4⟩:=aF.1 hop3
 clear hop hop1 hop2 hop3
 have hzl:=Nat.eq_of_beq_eq_true hzl
 cases hth:ts.head? with
 |none=>rw[hth]at hop4;simp at hop4
 |some xt=>
  rw[hth]at hop4
  have htl:ts=[xt]:=by
   cases ts with
   |nil=>simp at hth
   |cons q ts=>
    simp only[List.head?_cons,Option.some.injEq]at hth
    subst hth
    cases ts with
    |nil=>rfl
    |cons=>simp at hts
  subst htl
  have hargs:c.args= #[x,y]:=by cases ha:c.args;simp_all
  have htys:c.argTypes= #[t,xt]:=by cases ha:c.argTypes;simp_all
  obtain⟨i,hi,his⟩:=zA hsz
  obtain⟨hb2,hb1⟩:=Da hi hby
  obtain⟨z,i',hi',hiz,hzr,hzv⟩:=iv (P:=P) (G:=G) (w:=w) hz
  rw[hi]at hi'
  injection hi' with hi'
  subst hi'
  have hzs:z.cells.size=i.size:=by have:=VRL_len hzv;simp at this;omega
  cases hw:h.own with
  |true=>
   simp only[hw]at hop4
   obtain⟨xs,hxs,hop⟩:=ac.1 hop4
   clear hop4
   split at hop<;>try(simp at hop;done)
   rename_i e' hux
   obtain⟨ys,hys,hop⟩:=ac.1 hop
   obtain⟨vs,hvs,hop⟩:=ac.1 hop
   obtain⟨hg,hop⟩:=aF.1 hop
   simp only[Bool.and_eq_true,bC,decide_eq_true_eq]at hg
   obtain⟨hg1,hg2⟩:=hg
   have hg1:=Nat.eq_of_beq_eq_true hg1
   have h1:i.size=1:=by omega
   obtain⟨hys2,hys3⟩:=BI hvs
   have hv:=fm hys (aX R h y).1
   have hcl: ∀x∈ys,x.cells.length=i.size:=fun x hx=>by
    rw[hys2]at hx
    obtain⟨y,_,rfl⟩:=List.mem_map.1 hx
    exact h1.symm
   obtain⟨news,hA,hn⟩:=yf (P:=P) (t:=t) (e:=e) hux hv hcl
   have hnv:news=vs:=by
    have hvv: ∀(l m:List Value),VRL G w (l.map CV.v) m→m=l:=fun l=>by
     induction l with
     |nil=>intro m hm;simpa[VRL]using hm
     |cons x l ih=>
      intro m hm
      simp only[List.map_cons,VRL,VR]at hm
      obtain⟨v,r,rfl,rfl,h2⟩:=hm
      rw[ih r h2]
    have hfm: ∀l:List Value,(l.map CV.v).flatMap CV.cells=l.map CV.v:=fun l=>by
     induction l with
     |nil=>rfl
     |cons x l ih=>simp only[List.map_cons,List.flatMap_cons,ih,CV.cells];rfl
    rw[hys2,hfm]at hn
    exact hvv vs news hn
   subst hnv
   obtain⟨hou,how⟩:=yE hxs (aX R h x).1
   simp only[LVR]at hou
   have hown: ∀b,aH (.ost xs) (a.eval x) b→(∀l,¬ay G w (ab h.take s).fr a.tmps (μ++[(ab h.take s).lam]) l b)∧(∀lev i,aK (aE (μ++[(ab h.take s).lam]) lev i)→G.β lev i≠b)∧(aB G w s μ a.tmps b∨w.heap.size≤b):=by
    intro b hb
    obtain⟨tt,htt,hot⟩:=(aX R h x).2 b (how b hb)
    refine⟨fun l hl'=> ?_,fun lev i hlv=> ?_,.inl (.inl ⟨.fr tt,hot⟩)⟩
    ·obtain⟨a1,a2⟩:=hO l b hl'
     exact a1 tt htt (R.own l (.fr tt) b a2 hot)
    ·rw[hl.1]at hlv
     exact R.apart (.fr tt) b lev i hot hlv
   obtain⟨cv,w',G',hrun,R2,E2⟩:=NA (P:=P) (o:=o) (ty:=o.type) R1 E1 hd hu hi hiz hzs h1 hb2 hA hys3 hg2 hou hown
   refine cm ?_ (hk _ _ _ _ w' G' hop R2 E2)
   simp only[execOp,ho,resolve,hc,hargs,htys,Sem.run_bind,Sem.run_pure,Result.andThen_ok,invoke,builtin,List.map_toArray,List.map_cons,List.map_nil]
   rw[hrun];rfl
  |false=>
  simp only[hw]at hop4
  obtain⟨xs,hxs,hop⟩:=ac.1 hop4
  clear hop4
  obtain⟨hou,how⟩:=jh hxs (aX R h x).1
  have hown: ∀b,aH (.osl xs) (a.eval x) b→(∀l,¬ay G w (ab h.take s).fr a.tmps (μ++[(ab h.take s).lam]) l b)∧(∀lev i,aK (aE (μ++[(ab h.take s).lam]) lev i)→G.β lev i≠b)∧(aB G w s μ a.tmps b∨w.heap.size≤b):=by
   intro b hb
   obtain⟨tt,htt,hot⟩:=(aX R h x).2 b (how b hb)
   refine⟨fun l hl'=> ?_,fun lev i hlv=> ?_,.inl (.inl ⟨.fr tt,hot⟩)⟩
   ·obtain⟨a1,a2⟩:=hO l b hl'
    exact a1 tt htt (R.own l (.fr tt) b a2 hot)
   ·rw[hl.1]at hlv
    exact R.apart (.fr tt) b lev i hot hlv
  have fin: ∀{ys:List CV} {m:Nat} {news:List Value},Appends P w xt (a.eval y) i.size m news→VRL G w (ys.flatMap CV.cells) news→ys.length=m→(∀x∈xs,x.cells.length=i.size∧eJ x=true)→(∀x∈ys,x.cells.length=i.size∧eJ x=true)→
    xs.length+ys.length≤1099511627776→(Nat.beq e 5||fZ ys)=true→k (.osl (xs++ys)) (ab h.take s) μ=some r→o.wp P a w K Q:=by
   intro ys m news hA hyv hym hxa hya hsm hbt hkr
   obtain⟨cv,w',G',hrun,R2,E2⟩:=FR (P:=P) (o:=o) (ty:=o.type) R1 E1 hd hu hi hiz hzs hb1 hb2 hA hyv hym hxa hya hsm hbt hou hown
   refine cm ?_ (hk _ _ _ _ w' G' hkr R2 E2)
   simp only[execOp,ho,resolve,hc,hargs,htys,Sem.run_bind,Sem.run_pure,Result.andThen_ok,invoke,builtin,List.map_toArray,List.map_cons,List.map_nil]
   rw[hrun];rfl
  split at hop
  ·rename_i hux
   obtain⟨l,hl2,hop⟩:=ac.1 hop
   obtain⟨hg,hop⟩:=aF.1 hop
   simp only[Bool.and_eq_true]at hg
   obtain⟨hg0,⟨hg1,hg2⟩,hg3⟩:=hg
   have hg1:=Nat.eq_of_beq_eq_true hg1
   simp only[bC,decide_eq_true_eq]at hg2
   have hyv:=co R (fX hl2)
   simp only[VR]at hyv
   obtain⟨news,hA,hn⟩:=FS (P:=P) (G:=G) (w:=w) (l:=l) hux
   have h1:i.size=1:=by omega
   rw[←hyv,←h1]at hA
   refine fin hA hn (by simp) ?_ (fun x hx=> ?_) (by simpa using hg2) (by rw[hg0];rfl) hop
   ·rw[h1];exact iw hg3
   ·obtain⟨b,_,rfl⟩:=List.mem_map.1 hx
    exact⟨h1.symm,rfl⟩
  ·rename_i e' hux
   obtain⟨ys,hys,hop⟩:=ac.1 hop
   obtain⟨hg,hop⟩:=aF.1 hop
   simp only[dQ,Bool.and_eq_true]at hg
   obtain⟨hg0,⟨hg1,hg2⟩,hg3⟩:=hg
   simp only[bC,decide_eq_true_eq]at hg1
   have hv:=fm hys (aX R h y).1
   obtain⟨news,hA,hn⟩:=yf (P:=P) (t:=t) (e:=e) hux hv (fun x hx=>((iw hg3) x hx).1)
   rw[←his]at hA hg2 hg3
   exact fin hA hn rfl (iw hg2) (iw hg3) hg1 hg0 hop
  ·simp at hop
end
end Go.Abs
set_option linter.unusedVariables false
set_option linter.unusedSimpArgs false
namespace Go.Abs
open Go
def aP (args:List LV):S:=⟨dR (j5 0 args),[],false⟩
def Gh.withO (G:Gh)(O':Nat→Nat):Gh:={G with O:=O'}
def fK (L:Nat)(T:Nat→Prop)(G:Gh)(w:World):Out→Ending→World→Prop
 | .ret v μ',.returned cv,w'=> ∃O',Rel (G.withO O') L (aP [v]) μ' #[cv] w'∧Ext L T G w (G.withO O') w' (aB (G.withO O') w' (aP [v]) μ' #[cv])
 | .panic v μ',.panicked ch,w'=> ∃O' pv,ch=[{v:=pv,recovered:=false}]∧VR (G.withO O') w' v pv∧Rel (G.withO O') L (aP []) μ' #[] w'∧
   Ext L T G w (G.withO O') w' (aB (G.withO O') w' (aP []) μ' #[])
 |_,_,_=>False
def Kn (W0 w:World)(T:Nat→Prop):Prop:=W0.heap.size≤w.heap.size∧ ∀b,b<W0.heap.size→w.heap[b]? =W0.heap[b]? ∧ ¬T b
theorem Kn.ext {W0 w w':World}{T T':Nat→Prop}{L:Nat}{G G':Gh}(h:Kn W0 w T)(E:Ext L T G w G' w' T'):Kn W0 w' T':=by
 refine⟨Nat.le_trans h.1 E.size,fun b hb=> ?_⟩
 obtain⟨h1,h2⟩:=h.2 b hb
 have hlt:b<w.heap.size:=Nat.lt_of_lt_of_le hb h.1
 refine⟨(E.keep b hlt h2).1.trans h1,fun ht=> ?_⟩
 rcases E.grow b ht with h3|h3
 ·exact h2 h3
 ·omega
theorem Kn.mono {W0 w:World}{T T':Nat→Prop}(h:Kn W0 w T)(hT: ∀b,T' b→T b):Kn W0 w T':=⟨h.1,fun b hb=>⟨(h.2 b hb).1,fun ht=>(h.2 b hb).2 (hT b ht)⟩⟩
def cR (P:Program)(W0:World)(f:FuncId)(args:List LV)(μ:Mu)(out:Out):Prop:=
 (∃fn c,P.funcs[f]? =some fn∧fn.body=some c∧(fn.name == "runtime.NumGoroutine")=false)∧
 ∀(G:Gh) (w:World) (cargs:Array Value),cargs.size=args.length→Rel G μ.length (aP args) μ cargs w→Kn W0 w (aB G w (aP args) μ cargs)→
  Calls P f cargs w (fK μ.length (aB G w (aP args) μ cargs) G w out)
section
variable {G:Gh}{w w':World}{L:Nat}{μ μ':Mu}
theorem lG {lev i:Nat}(h:aK (aE (μ++[[]]) lev i)):lev<μ.length∧aE (μ++[[]]) lev i=aU μ lev i:=by
 rcases Nat.lt_trichotomy lev μ.length with h1|h1|h1
 ·exact⟨h1,ba h1⟩
 ·subst h1
  simp only[aE,br,aG]at h
  simp[aK]at h
 ·simp only[aE,jl h1]at h
  exact h.elim
theorem fo {fr:Fr}{tm:Array Value}{H:Mu}{lev i k b:Nat}(h:ay G w fr tm H (.ob lev i k) b):aK (aE H lev i):=by
 simp only[ay]at h
 split at h
 ·rename_i cs hcs;rw[hcs];trivial
 ·exact h.elim
theorem fp {G':Gh}{fr fr':Fr}{tm tm':Array Value}{H H':Mu}{lev i k b:Nat}(ho:aE H' lev i=aE H lev i)(hβ:G'.β lev i=G.β lev i)(hb:w'.heap[G.β lev i]? =w.heap[G.β lev i]?)
  (h:ay G' w' fr' tm' H' (.ob lev i k) b):ay G w fr tm H (.ob lev i k) b:=by
 simp only[ay,ho,hβ,hb]at h ⊢
 exact h
theorem Rel.mergeU {s sr:S}{tm tmr:Array Value}{T:Nat→Prop}{O':Nat→Nat}(R:Rel G L s μ tm w)(hp:s.pushed=false)
  (hT: ∀b,T b→(∀t,¬aH (s.fr t) (tm.getD t undef) b)∧(∀i k,¬ay G w s.fr tm (μ++[s.lam]) (.ob L i k) b)∧ ∀i,aK (aG s.lam i)→G.β L i≠b)
  (hlam:sr.lam=[]) (Rc:Rel (G.withO O') L sr μ' tmr w') (E:Ext L T G w (G.withO O') w' (aB (G.withO O') w' sr μ' tmr)):
  Rel (G.withO O') L s μ' tm w'∧
  (∀l b,ay (G.withO O') w' s.fr tm (μ'++[s.lam]) l b→(b<w.heap.size∧ ¬T b∧ay G w s.fr tm (μ++[s.lam]) l b)∨((∃lev i k,l= .ob lev i k)∧ay (G.withO O') w' sr.fr tmr (μ'++[sr.lam]) l b))∧
  (∀lev i,aK (aE (μ'++[s.lam]) lev i)→(G.β lev i<w.heap.size∧ ¬T (G.β lev i)∧lev=L∧aK (aE (μ++[s.lam]) lev i))∨aK (aE (μ'++[sr.lam]) lev i)):=by
 have hμ':=Rc.lev
 have hμ:=R.lev
 have hkeep: ∀b,b<w.heap.size→ ¬T b→w'.heap[b]? =w.heap[b]? ∧(G.withO O').O b=G.O b:=fun b hb hn=>E.keep b hb hn
 have hfrT: ∀t b,aH (s.fr t) (tm.getD t undef) b→b<w.heap.size∧ ¬T b:=fun t b hb=>⟨R.touch_lt (.inl ⟨.fr t,hb⟩),fun h=>(hT b h).1 t hb⟩
 have hobT: ∀i k b,ay G w s.fr tm (μ++[s.lam]) (.ob L i k) b→b<w.heap.size∧ ¬T b:=fun i k b hb=>⟨R.touch_lt (.inl ⟨_,hb⟩),fun h=>(hT b h).2.1 i k hb⟩
 have eL: ∀i,aE (μ++[s.lam]) L i=aG s.lam i:=fun i=>by rw[←hμ];exact br
 have eL': ∀i,aE (μ'++[s.lam]) L i=aG s.lam i:=fun i=>by rw[←hμ'];exact br
 have hβT: ∀i,aK (aG s.lam i)→G.β L i<w.heap.size∧ ¬T (G.β L i):=fun i hl=>⟨R.touch_lt (.inr ⟨L,i,by rw[eL];exact hl,rfl⟩),fun h=>(hT _ h).2.2 i hl rfl⟩
 have elt: ∀lev i,lev<L→aE (μ'++[s.lam]) lev i=aE (μ'++[sr.lam]) lev i:=fun lev i h=>by
  rw[aE,aE,ba (by omega),ba (by omega)]
 have hown: ∀l b,ay (G.withO O') w' s.fr tm (μ'++[s.lam]) l b→(b<w.heap.size∧ ¬T b∧ay G w s.fr tm (μ++[s.lam]) l b)∨((∃lev i k,l= .ob lev i k)∧ay (G.withO O') w' sr.fr tmr (μ'++[sr.lam]) l b):=by
  intro l b h
  cases l with
  |fr t=>exact .inl ⟨(hfrT t b h).1,(hfrT t b h).2,h⟩
  |ob lev i k=>
   have hl:=fo h
   rcases cG hμ' hl with⟨h1,h2⟩|⟨rfl,h1,h2⟩
   ·exact .inr ⟨⟨_,_,_,rfl⟩,fp (elt lev i h1) rfl rfl h⟩
   ·have hl':aK (aG s.lam i):=by rw[←h2];exact hl
    have h3:ay G w s.fr tm (μ++[s.lam]) (.ob lev i k) b:=fp (fr':=s.fr) (tm':=tm) (by rw[eL,eL']) rfl (hkeep _ (hβT i hl').1 (hβT i hl').2).1 h
    exact .inl ⟨(hobT i k b h3).1,(hobT i k b h3).2,h3⟩
 have hlive: ∀lev i,aK (aE (μ'++[s.lam]) lev i)→(G.β lev i<w.heap.size∧ ¬T (G.β lev i)∧lev=L∧aK (aE (μ++[s.lam]) lev i))∨aK (aE (μ'++[sr.lam]) lev i):=by
  intro lev i hl
  rcases cG hμ' hl with⟨h1,h2⟩|⟨rfl,h1,h2⟩
  ·exact .inr (by rw[←elt lev i h1];exact hl)
  ·have hl':aK (aG s.lam i):=by rw[←h2];exact hl
   exact .inl ⟨(hβT i hl').1,(hβT i hl').2,rfl,by rw[eL];exact hl'⟩
 have hTr: ∀b,aB (G.withO O') w' sr μ' tmr b→T b∨w.heap.size≤b:=E.grow
 refine⟨⟨hμ',fun t=> ?_,fun i=> ?_,Rc.mu,fun lev i lev' i' h h' e=> ?_,fun l l' b h h'=> ?_,fun l b lev i h h' e=> ?_,Rc.nlt,R.nL,R.ngt⟩,hown,hlive⟩
 ·exact cZ E.le (Nat.le_refl _) (fun _ _=>⟨rfl,rfl⟩) _ _ (fun b hb=>hkeep b (hfrT t b hb).1 (hfrT t b hb).2) (R.fr t)
 ·refine ci E.le (Nat.le_refl _) (fun _ _=>⟨rfl,rfl⟩) (fun hl=>hkeep _ (hβT i hl).1 (hβT i hl).2) (fun cs j x cur e fz ho hx hb b' hb'=> ?_) (R.lam i)
  have h3:ay G w s.fr tm (μ++[s.lam]) (.ob L i j) b':=by
   simp only[ay,eL,ho,hx]
   exact⟨cur,e,fz,hb,hb'⟩
  exact hkeep b' (hobT i j b' h3).1 (hobT i j b' h3).2
 ·rcases hlive lev i h with⟨h1,h2,rfl,h3⟩|h1<;>rcases hlive lev' i' h' with⟨h1',h2',rfl,h3'⟩|h1'
  ·exact R.inj _ i _ i' h3 h3' e
  ·exfalso
   have e':G.β lev i=G.β lev' i':=e
   rw[e']at h1 h2
   rcases hTr (G.β lev' i') (.inr ⟨lev',i',h1',rfl⟩)with hh|hh
   ·exact h2 hh
   ·omega
  ·exfalso
   have e':G.β lev i=G.β lev' i':=e
   rw[←e']at h1' h2'
   rcases hTr (G.β lev i) (.inr ⟨lev,i,h1,rfl⟩)with hh|hh
   ·exact h2' hh
   ·omega
  ·exact Rc.inj lev i lev' i' h1 h1' e
 ·rcases hown l b h with⟨h1,h2,h3⟩|⟨⟨_,_,_,rfl⟩,h3⟩<;>rcases hown l' b h' with⟨h1',h2',h3'⟩|⟨⟨_,_,_,rfl⟩,h3'⟩
  ·exact R.own l l' b h3 h3'
  ·exfalso
   rcases hTr b (.inl ⟨_,h3'⟩)with hh|hh
   ·exact h2 hh
   ·omega
  ·exfalso
   rcases hTr b (.inl ⟨_,h3⟩)with hh|hh
   ·exact h2' hh
   ·omega
  ·exact Rc.own _ _ b h3 h3'
 ·have e':G.β lev i=b:=e
  rcases hown l b h with⟨h1,h2,h3⟩|⟨⟨_,_,_,rfl⟩,h3⟩<;>rcases hlive lev i h' with⟨h1',h2',rfl,h3'⟩|h3'
  ·exact R.apart l b lev i h3 h3' e'
  ·rcases hTr b (.inr ⟨lev,i,h3',e'⟩)with hh|hh
   ·exact h2 hh
   ·omega
  ·subst e'
   rcases hTr _ (.inl ⟨_,h3⟩)with hh|hh
   ·exact h2' hh
   ·omega
  ·exact Rc.apart _ b lev i h3 h3' e'
theorem uu: ∀(args:List LV) (n t:Nat),dR (j5 n args) t=if n≤t then(args[t-n]?).getD (.cv .undef)else .cv .undef
 |[],n,t=>by simp[j5,dR]
 |v::r,n,t=>by
  simp only[j5,dR]
  split
  ·rename_i h
   have:=Nat.eq_of_beq_eq_true h
   subst this
   simp
  ·rename_i h
   have hne:t≠n:=fun e=>by subst e;simp[Nat.beq_refl]at h
   rw[uu r (n+1) t]
   by_cases h1:n+1≤t
   ·rw[if_pos h1,if_pos (by omega),show t-n=(t-(n+1))+1 by omega]
    simp
   ·rw[if_neg h1,if_neg (by omega)]
theorem ct (args:List LV)(t:Nat):(aP args).fr t=(args[t]?).getD (.cv .undef):=by
 simp only[aP,uu,Nat.zero_le,if_true,Nat.sub_zero]
theorem Fl {nl nl' L':Nat}{x:LV}{v:Value}(hx:iY x=true)(h:LVR G w L nl x v):LVR G w L' nl' x v:=by
 cases x<;>simp only[iY,Bool.false_eq_true]at hx<;>simpa[LVR]using h
theorem Rel.enterU {s:S}{tm cargs:Array Value}{args:List LV}(R:Rel G L s μ tm w)(hp:s.pushed=false)(hv: ∀j x,args[j]? =some x→iY x=true∧LVR G w L s.lam.length x (cargs.getD j undef))
  (ho: ∀j x b,args[j]? =some x→aH x (cargs.getD j undef) b→(∃t,aH (s.fr t) (tm.getD t undef) b)∧ ∀j' x',args[j']? =some x'→aH x' (cargs.getD j' undef) b→j'=j):
  Rel G L (aP args) μ cargs w∧
  (∀l b,ay G w (aP args).fr cargs (μ++[(aP args).lam]) l b→(∃j x,l= .fr j∧args[j]? =some x∧aH x (cargs.getD j undef) b)∨(∃lev i k,l= .ob lev i k∧lev<L∧ay G w s.fr tm (μ++[s.lam]) l b))∧
  (∀lev i,aK (aE (μ++[(aP args).lam]) lev i)→lev<L∧aK (aE (μ++[s.lam]) lev i)):=by
 have hμ:=R.lev
 have hlive: ∀lev i,aK (aE (μ++[(aP args).lam]) lev i)→lev<L∧aK (aE (μ++[s.lam]) lev i):=by
  intro lev i h
  obtain⟨h1,h2⟩:=lG h
  refine⟨by omega,?_⟩
  have h3:aE (μ++[s.lam]) lev i=aU μ lev i:=ba h1
  rw[h3,←h2];exact h
 have hown: ∀l b,ay G w (aP args).fr cargs (μ++[(aP args).lam]) l b→(∃j x,l= .fr j∧args[j]? =some x∧aH x (cargs.getD j undef) b)∨(∃lev i k,l= .ob lev i k∧lev<L∧ay G w s.fr tm (μ++[s.lam]) l b):=by
  intro l b h
  cases l with
  |fr t=>
   simp only[ay,ct]at h
   cases hx:args[t]? with
   |none=>rw[hx]at h;simp[aH]at h
   |some x=>rw[hx]at h;exact .inl ⟨t,x,rfl,hx,h⟩
  |ob lev i k=>
   have hl:=fo h
   obtain⟨h1,h2⟩:=lG hl
   refine .inr ⟨lev,i,k,rfl,by omega,fp (fr':=(aP args).fr) (tm':=cargs) ?_ rfl rfl h⟩
   rw[show aE (μ++[(aP args).lam]) lev i=aU μ lev i from h2]
   exact(ba h1).symm
 refine⟨⟨hμ,fun t=> ?_,fun i=> ?_,R.mu,fun lev i lev' i' h h' e=>R.inj lev i lev' i' (hlive lev i h).2 (hlive lev' i' h').2 e,fun l l' b h h'=> ?_,fun l b lev i h h' e=> ?_,R.nlt,?_,R.ngt⟩,hown,hlive⟩
 ·rw[ct]
  cases hx:args[t]? with
  |none=>simp[LVR,VR]
  |some x=>exact Fl (hv t x hx).1 (hv t x hx).2
 ·have:aG (aP args).lam i= .dead:=by simp[aP,aG]
  rw[this];trivial
 ·rcases hown l b h with⟨j,x,rfl,hx,hox⟩|⟨lev,i,k,rfl,hlt,h1⟩<;>rcases hown l' b h' with⟨j',x',rfl,hx',hox'⟩|⟨lev',i',k',rfl,hlt',h1'⟩
  ·rw[(ho j x b hx hox).2 j' x' hx' hox']
  ·obtain⟨t,ht⟩:=(ho j x b hx hox).1
   exact absurd (R.own (.fr t) _ b ht h1') (by simp)
  ·obtain⟨t,ht⟩:=(ho j' x' b hx' hox').1
   exact absurd (R.own (.fr t) _ b ht h1) (by simp)
  ·exact R.own _ _ b h1 h1'
 ·rcases hown l b h with⟨j,x,rfl,hx,hox⟩|⟨lev',i',k,rfl,hlt,h1⟩
  ·obtain⟨t,ht⟩:=(ho j x b hx hox).1
   exact R.apart (.fr t) b lev i ht (hlive lev i h').2 e
  ·exact R.apart _ b lev i h1 (hlive lev i h').2 e
 ·have:=R.nL
  rw[hp]at this
  simpa[aP]using this
end
end Go.Abs
set_option linter.unusedVariables false
set_option linter.unusedSimpArgs false
namespace Go.Abs
open Go
section
variable {P:Program}{W0:World}{ρ:Rho}{α:Type}{L:Nat}{G:Gh}{w:World}{s:S}{μ:Mu}{a:Act}{o:Oper}{h:OpHint}{k:LV→S→Mu→Option α}{p:CV→S→Mu→Option α}{r:α}{K:Act→World→Prop}{Q:Exit→Act→World→Prop}
theorem A1 {h:OpHint}{x:Operand}{b:Nat}(ho:aH (evA h s.fr x) (a.eval x) b): ∃t,x= .tmp t∧t∈h.take∧aH (s.fr t) (a.tmps.getD t undef) b:=by
 cases x with
 |tmp t=>
  simp only[evA,Act.eval]at ho
  cases ht:iA h.take t with
  |true=>rw[ht]at ho;exact⟨t,rfl,fB.1 ht,ho⟩
  |false=>rw[ht]at ho;exact absurd ho i8
 |const c=>exact absurd ho ya
 |global g=>simp[evA,aH]at ho
 |func f=>simp[evA,aH]at ho
theorem xu: ∀{l:List Operand} {t j:Nat},l[j]? =some (.tmp t)→xq t l=true
 |[],t,j,h=>by simp at h
 |x::r,t,0,h=>by
  simp only[List.getElem?_cons_zero,Option.some.injEq]at h
  subst h
  simp[xq,Nat.beq_refl]
 |x::r,t,j+1,h=>by
  have ih:=xu (l:=r) (t:=t) (j:=j) (by simpa using h)
  cases x<;>simp only[xq,ih]
  split<;>rfl
theorem lw {x:Operand}{r:List Operand}(h:fV (x::r)=true):fV r=true∧ ∀t,x= .tmp t→xq t r=false:=by
 cases x<;>simp only[fV]at h
 ·rename_i t
  split at h
  ·simp at h
  ·rename_i hm
   exact⟨h,fun u e=>by injection e with e;subst e;simpa using hm⟩
 all_goals exact⟨h,fun t e=>by cases e⟩
theorem sa: ∀{l:List Operand},fV l=true→ ∀{t j j':Nat},l[j]? =some (.tmp t)→l[j']? =some (.tmp t)→j=j'
 |[],_,t,j,j',h,_=>by simp at h
 |x::r,hd,t,0,0,_,_=>rfl
 |x::r,hd,t,0,j'+1,h,h'=>by
  simp only[List.getElem?_cons_zero,Option.some.injEq]at h
  have:=xu (l:=r) (t:=t) (j:=j') (by simpa using h')
  rw[(lw hd).2 t h]at this
  cases this
 |x::r,hd,t,j+1,0,h,h'=>by
  simp only[List.getElem?_cons_zero,Option.some.injEq]at h'
  have:=xu (l:=r) (t:=t) (j:=j) (by simpa using h)
  rw[(lw hd).2 t h']at this
  cases this
 |x::r,hd,t,j+1,j'+1,h,h'=>by
  have:=sa (lw hd).1 (t:=t) (j:=j) (j':=j') (by simpa using h) (by simpa using h')
  omega
theorem sf: ∀{l:List LV},ge l=true→ ∀{j:Nat} {x:LV},l[j]? =some x→iY x=true
 |[],_,j,x,h=>by simp at h
 |y::r,hp,j,x,h=>by
  simp only[ge]at hp
  split at hp<;>try(simp at hp;done)
  cases j with
  |zero=>simp only[List.getElem?_cons_zero,Option.some.injEq]at h;subst h;assumption
  |succ j=>exact sf hp (by simpa using h)
theorem Calls.mono {f:FuncId}{args:Array Value}{R R':Ending→World→Prop}(h:Calls P f args w R)(hR: ∀e w',R e w'→R' e w'):Calls P f args w R':=by
 intro cs
 obtain⟨e,w',fr,h1,h2⟩:=h cs
 exact⟨e,w',fr,hR e w' h1,h2⟩
structure ArgsR (G:Gh) (w:World) (L:Nat) (s:S) (tm:Array Value) (ts:List Nat) (args:List LV) (cargs:Array Value):Prop where
 size:cargs.size=args.length
 val: ∀j x,args[j]? =some x→LVR G w L s.lam.length x (cargs.getD j undef)
 own: ∀j x b,args[j]? =some x→aH x (cargs.getD j undef) b→(∃t,t∈ts∧aH (s.fr t) (tm.getD t undef) b)∧ ∀j' x',args[j']? =some x'→aH x' (cargs.getD j' undef) b→j'=j
theorem QH (R:Rel G L s μ a.tmps w){h:OpHint}{l:List Operand}(hd:fV l=true){caps:List LV}{vs:List Value}(hc:bT G w L s.lam.length caps vs):
  ArgsR G w L s a.tmps h.take (l.map (evA h s.fr)++caps) (l.map a.eval++vs).toArray:=by
 obtain⟨hcl,hcg⟩:=qt hc
 have hgl: ∀j x,(l.map (evA h s.fr)++caps)[j]? =some x→(j<l.length∧ ∃y,l[j]? =some y∧x=evA h s.fr y∧(l.map a.eval++vs).toArray.getD j undef=a.eval y)∨
   (LVR G w L s.lam.length x ((l.map a.eval++vs).toArray.getD j undef)∧oX x=false):=by
  intro j x hx
  by_cases hj:j<l.length
  ·left
   rw[List.getElem?_append_left (by simpa using hj)]at hx
   simp only[List.getElem?_map,Option.map_eq_some_iff]at hx
   obtain⟨y,hy,rfl⟩:=hx
   refine⟨hj,y,hy,rfl,?_⟩
   simp only[Array.getD_eq_getD_getElem?,List.getElem?_toArray]
   rw[List.getElem?_append_left (by simpa using hj)]
   simp[hy]
  ·right
   rw[List.getElem?_append_right (by simp;omega)]at hx
   obtain⟨v,hv,h1,h2⟩:=hcg _ x hx
   refine⟨?_,h2⟩
   simp only[Array.getD_eq_getD_getElem?,List.getElem?_toArray]
   rw[List.getElem?_append_right (by simp;omega)]
   simp only[List.length_map]at hv ⊢
   rw[hv];exact h1
 refine⟨by simp[hcl],fun j x hx=> ?_,fun j x b hx ho=> ?_⟩
 ·rcases hgl j x hx with⟨_,y,_,rfl,e⟩|⟨h1,_⟩
  ·rw[e];exact(aX R h y).1
  ·exact h1
 ·rcases hgl j x hx with⟨_,y,hy,rfl,e⟩|⟨_,h2⟩
  ·rw[e]at ho
   obtain⟨t,rfl,ht,hot⟩:=A1 (a:=a) ho
   refine⟨⟨t,ht,hot⟩,fun j' x' hx' ho'=> ?_⟩
   rcases hgl j' x' hx' with⟨_,y',hy',rfl,e'⟩|⟨_,h2⟩
   ·rw[e']at ho'
    obtain⟨t',rfl,ht',hot'⟩:=A1 (a:=a) ho'
    have:=R.own (.fr t) (.fr t') b hot hot'
    injection this with this
    subst this
    exact sa hd hy' hy
   ·exact absurd ho' (nz h2)
  ·exact absurd ho (nz h2)
theorem QN {f:FuncId}{args:List LV}{cargs:Array Value}(R:Rel G L s μ a.tmps w)(hd: ∀d,o.dst=some d→d<a.tmps.size)(hk:KOK L G w s μ a o.dst k r K)(hpk:POK L G w s μ a p r Q)
  (hrho: ∀f args μ out,ρ.call f args μ=some out→cR P W0 f args μ out) (hkn:Kn W0 w (aB G w s μ a.tmps)) (hp:s.pushed=false) (hpl:ge args=true) (A:ArgsR G w L s a.tmps h.take args cargs)
  (hrun:(∃fn c,P.funcs[f]? =some fn∧fn.body=some c∧(fn.name == "runtime.NumGoroutine")=false)→(execOp a.eval o).run P w= .ok (.enter f cargs) w)
  (hop:callK (ρ.call f args μ) (fun v μ=>cW P h.own o.type v fun v=>k v (ab h.take s) μ) (fun v μ=>p v (ab h.take s) μ)=some r):o.wp P a w K Q:=by
 obtain⟨out,hout,hop⟩:=ac.1 hop
 obtain⟨hfn,hM⟩:=hrho _ _ _ _ hout
 have hμ:=R.lev
 obtain⟨R1,E1,hO⟩:=cH R h.take
 have hl:=aQ h.take s
 obtain⟨Re,hown,hlive⟩:=R.enterU (tm:=a.tmps) (args:=args) (cargs:=cargs) hp (fun j x hx=>⟨sf hpl hx,A.val j x hx⟩) (fun j x b hx ho=>⟨(A.own j x b hx ho).1.imp fun t h=>h.2,(A.own j x b hx ho).2⟩)
 have hT: ∀b,aB G w (aP args) μ cargs b→(∀t,¬aH ((ab h.take s).fr t) (a.tmps.getD t undef) b)∧(∀i k,¬ay G w (ab h.take s).fr a.tmps (μ++[(ab h.take s).lam]) (.ob L i k) b)∧ ∀i,aK (aG (ab h.take s).lam i)→G.β L i≠b:=by
  have eL: ∀i,aE (μ++[s.lam]) L i=aG s.lam i:=fun i=>by rw[←hμ];exact br
  rintro b (⟨l,hb⟩|⟨lev,i,hb,rfl⟩)
  ·rcases hown l b hb with⟨j,x,rfl,hx,ho⟩|⟨lev,i,k,rfl,hlt,ho⟩
   ·obtain⟨⟨u,hu,hou⟩,_⟩:=A.own j x b hx ho
    refine⟨fun t ht=> ?_,fun i k hik=> ?_,fun i hi=> ?_⟩
    ·obtain⟨a1,a2⟩:=hO (.fr t) b ht
     exact a1 u hu (R.own _ (.fr u) b a2 hou)
    ·obtain⟨a1,a2⟩:=hO _ b hik
     exact a1 u hu (R.own _ (.fr u) b a2 hou)
    ·rw[hl.1]at hi
     exact R.apart (.fr u) b L i hou (by rw[eL];exact hi)
   ·refine⟨fun t ht=> ?_,fun i' k' hik=> ?_,fun i' hi=> ?_⟩
    ·have:=R.own _ _ b (hO (.fr t) b ht).2 ho
     cases this
    ·have:=R.own _ _ b (hO _ b hik).2 ho
     injection this with h1 h2 h3
     omega
    ·rw[hl.1]at hi
     exact R.apart _ b L i' ho (by rw[eL];exact hi)
  ·obtain⟨hlt,hl2⟩:=hlive lev i hb
   refine⟨fun t ht=>R.apart _ _ lev i (hO (.fr t) _ ht).2 hl2 rfl,fun i' k' hik=>R.apart _ _ lev i (hO _ _ hik).2 hl2 rfl,fun i' hi e=> ?_⟩
   rw[hl.1]at hi
   have:=(R.inj L i' lev i (by rw[eL];exact hi) hl2 e).1
   omega
 have hT0: ∀b,aB G w (aP args) μ cargs b→aB G w s μ a.tmps b:=by
  rintro b (⟨l,hb⟩|⟨lev,i,hb,rfl⟩)
  ·rcases hown l b hb with⟨j,x,rfl,hx,ho⟩|⟨lev,i,k,rfl,hlt,ho⟩
   ·obtain⟨⟨u,hu,hou⟩,_⟩:=A.own j x b hx ho
    exact .inl ⟨.fr u,hou⟩
   ·exact .inl ⟨_,ho⟩
  ·exact .inr ⟨lev,i,(hlive lev i hb).2,rfl⟩
 have hcall:=hM G w cargs A.size (by rw[hμ];exact Re) (hkn.mono hT0)
 rw[hμ]at hcall
 unfold Oper.wp
 rw[hrun hfn,Oper.upon_enter]
 refine hcall.mono fun e w' hR=> ?_
 have merge: ∀{O':Nat→Nat} {sr:S} {μ':Mu} {tmr:Array Value},sr.lam=[]→Rel (G.withO O') L sr μ' tmr w'→Ext L (aB G w (aP args) μ cargs) G w (G.withO O') w' (aB (G.withO O') w' sr μ' tmr)→
   Rel (G.withO O') L (ab h.take s) μ' a.tmps w'∧Ext L (aB G w s μ a.tmps) G w (G.withO O') w' (aB (G.withO O') w' (ab h.take s) μ' a.tmps)∧
   (∀b,aB (G.withO O') w' sr μ' tmr b→(aB G w s μ a.tmps b∨w.heap.size≤b))∧
   (∀ t b, ay (G.withO O') w' sr.fr tmr (μ' ++ [sr.lam]) (.fr t) b → (∀ l, ¬ ay (G.withO O') w' (ab h.take s).fr a.tmps (μ' ++ [(ab h.take s).lam]) l b) ∧
    ∀lev i,aK (aE (μ'++[(ab h.take s).lam]) lev i)→(G.withO O').β lev i≠b):=by
  intro O' sr μ' tmr hlam Rc E
  obtain⟨R2,h2,h3⟩:=R1.mergeU (by rw[hl.2];exact hp) hT hlam Rc E
  have hin: ∀b,aB (G.withO O') w' sr μ' tmr b→(aB G w s μ a.tmps b∨w.heap.size≤b):=fun b hb=>(E.grow b hb).imp (hT0 b) id
  refine⟨R2,⟨E.le,E.os,E.tape,E.output,E.size,fun b hb hn=>E.keep b hb fun hh=>hn (hT0 b hh),fun b hb=> ?_,E.lev⟩,hin,fun t b hb=>⟨fun l hl'=> ?_,fun lev i hli e=> ?_⟩⟩
  ·rcases hb with⟨l,hb⟩|⟨lev,i,hb,rfl⟩
   ·rcases h2 l b hb with⟨_,_,h4⟩|⟨_,h4⟩
    ·exact .inl (.inl ⟨l,(hO l b h4).2⟩)
    ·exact hin b (.inl ⟨l,h4⟩)
   ·rcases h3 lev i hb with⟨_,_,_,h4⟩|h4
    ·rw[hl.1]at h4
     exact .inl (.inr ⟨lev,i,h4,rfl⟩)
    ·exact hin _ (.inr ⟨lev,i,h4,rfl⟩)
  ·rcases h2 l b hl' with⟨h4,h5,_⟩|⟨⟨_,_,_,rfl⟩,h4⟩
   ·rcases E.grow b (.inl ⟨_,hb⟩)with hh|hh
    ·exact h5 hh
    ·omega
   ·have:=Rc.own _ _ b hb h4
    cases this
  ·rcases h3 lev i hli with⟨h4,h5,_,_⟩|h4
   ·have e':G.β lev i=b:=e
    rw[e']at h4 h5
    rcases E.grow b (.inl ⟨_,hb⟩)with hh|hh
    ·exact h5 hh
    ·omega
   ·exact Rc.apart _ b lev i hb h4 e
 cases out with
 |ret v μ'=>
  cases e with
  |returned cv=>
   simp only[fK]at hR
   obtain⟨O',Rc,E⟩:=hR
   obtain⟨R2,E2,hin,hfr⟩:=merge rfl Rc E
   obtain⟨y,hy,hyr⟩:=fF hop
   have hv:LVR (G.withO O') w' L 0 v cv:=by
    have:=Rc.fr 0
    simp only[ct,List.getElem?_cons_zero,Option.getD_some]at this
    simpa[aP]using this
   have hv2:LVR (G.withO O') w' L (ab h.take s).lam.length v cv:=cZ (Le.refl _ _) (Nat.zero_le _) (fun _ _=>⟨rfl,rfl⟩) v cv (fun _ _=>⟨rfl,rfl⟩) hv
   obtain⟨hy1,hy2⟩:=hyr (G.withO O') w' L _ cv hv2
   obtain ⟨R3, E3⟩ := cg (dst := o.dst) (v := y) (cv := cv) R2 E2 hy1 (fun b hb => by
    have hat:ay (G.withO O') w' (aP [v]).fr #[cv] (μ'++[(aP [v]).lam]) (.fr 0) b:=by
     have:=hy2 b hb
     simpa[ay,ct]using this
    exact⟨(hfr 0 b hat).1,(hfr 0 b hat).2,hin b (.inl ⟨_,hat⟩)⟩) hd
   exact hk y _ μ' cv w' _ hy R3 E3
  |panicked ch=>simp[fK]at hR
  |outgrown=>simp[fK]at hR
 |panic v μ'=>
  cases e with
  |returned cv=>simp[fK]at hR
  |panicked ch=>
   simp only[fK]at hR
   obtain⟨O',pv,rfl,hv,Rc,E⟩:=hR
   obtain⟨R2,E2,_,_⟩:=merge rfl Rc E
   exact hpk v _ μ' pv w' _ hop R2 hv E2
  |outgrown=>simp[fK]at hR
end
end Go.Abs
set_option linter.unusedVariables false
set_option linter.unusedSimpArgs false
namespace Go.Abs
open Go
def Gh.push (G:Gh)(L n:Nat):Gh:={G with n:=fun x=>if x=L then n else G.n x}
section
variable {G G3:Gh}{w w':World}{L:Nat}{μ μ':Mu}
theorem sq {nl:Nat}{x:LV}{v:Value}{c:CV}(hle:Le G w G3 w)(hβ: ∀i,i<nl→i<G3.n L∧G3.β L i=G.β L i∧G3.sz L i=G.sz L i)(h:LVR G w L nl x v)(hc:mM L x=some c):VR G3 w c v:=by
 cases x<;>simp only[mM,Option.some.injEq,reduceCtorEq]at hc<;>subst hc<;>simp only[LVR]at h
 ·exact bi hle _ _ h
 ·exact bi hle _ _ (g9 h)
 ·simp only[VR]
  obtain⟨h1,h2⟩:=h
  exact⟨(hβ _ h1).1,by rw[(hβ _ h1).2.1];exact h2⟩
 ·simp only[VR]
  obtain⟨h1,cap,cur,e,fz,h2,h3,_,h4,h5⟩:=h
  obtain⟨k1,k2,k3⟩:=hβ _ h1
  exact⟨k1,cap,cur,e,fz,by rw[k2];exact h2,h3,by rw[k2];exact h4,by rw[k3];exact h5⟩
 ·simp only[VR]
  obtain⟨h1,h2⟩:=h
  exact⟨(hβ _ h1).1,by rw[(hβ _ h1).2.1];exact h2⟩
 ·simp only[VR]
  obtain⟨h1,h2⟩:=h
  exact⟨(hβ _ h1).1,by rw[(hβ _ h1).2.1];exact h2⟩
theorem qk {nl:Nat}: ∀{xs:List LV} {vs:List Value} {cs:List CV} (hle:Le G w G3 w) (hβ: ∀i,i<nl→i<G3.n L∧G3.β L i=G.β L i∧G3.sz L i=G.sz L i) (h:bT G w L nl xs vs) (hc:lh L xs=some cs),VRL G3 w cs vs
 |[],vs,cs,hle,hβ,h,hc=>by
  simp only[lh,Option.some.injEq]at hc
  subst hc
  simp only[bT]at h
  simpa[VRL]using h
 |x::xs,vs,cs,hle,hβ,h,hc=>by
  simp only[lh]at hc
  obtain⟨c,h1,hc⟩:=ac.1 hc
  obtain⟨r,h2,hc⟩:=ac.1 hc
  simp only[Option.some.injEq]at hc
  subst hc
  simp only[bT]at h
  obtain⟨v,vr,e,_,h3,h4⟩:=h
  simp only[VRL]
  exact⟨v,vr,e,sq hle hβ h3 h1,qk hle hβ h4 h2⟩
theorem mc {nl L' nl':Nat}{x y:LV}{v:Value}(hle:Le G w G3 w)(hO:G3.O=G.O)(hβ: ∀i,i<nl→i<G3.n L∧G3.β L i=G.β L i∧G3.sz L i=G.sz L i)(h:LVR G w L nl x v)(hy:vI L x=some y):
  LVR G3 w L' nl' y v∧ ∀b,aH y v b↔aH x v b:=by
 unfold vI at hy
 split at hy
 ·simp only[Option.some.injEq]at hy
  subst hy
  exact⟨by simp only[LVR]at h ⊢; exact kn hle (fun _ _ _ _=>⟨rfl,by rw[hO]⟩) h,fun b=>Iff.rfl⟩
 ·obtain⟨cs,h1,hy⟩:=ac.1 hy
  simp only[Option.some.injEq]at hy
  subst hy
  simp only[LVR,VR]at h ⊢
  obtain⟨vs,e,hl⟩:=h
  exact⟨⟨vs,e,qk hle hβ hl h1⟩,fun b=>by simp[aH]⟩
 ·obtain⟨c,h1,hy⟩:=ac.1 hy
  simp only[Option.some.injEq]at hy
  subst hy
  refine⟨by simp only[LVR];exact sq hle hβ h h1,fun b=> ?_⟩
  rename_i n1 n2
  cases x<;>first|exact(n1 _ rfl).elim|(simp[mM]at h1;done)|simp[aH]
theorem gW: ∀{xs ys:List LV},gx L xs=some ys→ys.length=xs.length∧ ∀(j:Nat) y,ys[j]? =some y→ ∃x,xs[j]? =some x∧vI L x=some y
 |[],ys,h=>by simp only[gx,Option.some.injEq]at h;subst h;exact⟨rfl,fun j y hy=>by simp at hy⟩
 |x::xs,ys,h=>by
  simp only[gx]at h
  obtain⟨y,h1,h⟩:=ac.1 h
  obtain⟨r,h2,h⟩:=ac.1 h
  simp only[Option.some.injEq]at h
  subst h
  obtain⟨h3,h4⟩:=gW h2
  refine⟨by simp[h3],fun j z hz=> ?_⟩
  cases j with
  |zero=>simp only[List.getElem?_cons_zero,Option.some.injEq]at hz;subst hz;exact⟨x,rfl,h1⟩
  |succ j=>exact h4 j z (by simpa using hz)
inductive ObOuter (L:Nat):Ob→Ob→Prop where
 |dead:ObOuter L .dead .dead
 |arr {sz cs}:ObOuter L (.arr sz cs) (.arr sz cs)
 |map {ks vs}:ObOuter L (.map ks vs) (.map ks vs)
 |cells {cs ds}:gx L cs=some ds→ObOuter L (.cells cs) (.cells ds)
theorem iX: ∀{l l':Lam},dT L l=some l'→l'.length=l.length∧ ∀i,ObOuter L (aG l i) (aG l' i)
 |[],l',h=>by simp only[dT,Option.some.injEq]at h;subst h;exact⟨rfl,fun i=>by simp only[aG,List.getElem?_nil];exact .dead⟩
 | .dead::l,l',h=>by
  simp only[dT]at h
  obtain⟨r,h1,h⟩:=ac.1 h
  simp only[Option.some.injEq]at h
  subst h
  obtain⟨h2,h3⟩:=iX h1
  refine⟨by simp[h2],fun i=> ?_⟩
  cases i with
  |zero=>exact .dead
  |succ i=>exact h3 i
 | .arr sz cs::l,l',h=>by
  simp only[dT]at h
  obtain⟨r,h1,h⟩:=ac.1 h
  simp only[Option.some.injEq]at h
  subst h
  obtain⟨h2,h3⟩:=iX h1
  refine⟨by simp[h2],fun i=> ?_⟩
  cases i with
  |zero=>exact .arr
  |succ i=>exact h3 i
 | .map ks vs::l,l',h=>by
  simp only[dT]at h
  obtain⟨r,h1,h⟩:=ac.1 h
  simp only[Option.some.injEq]at h
  subst h
  obtain⟨h2,h3⟩:=iX h1
  refine⟨by simp[h2],fun i=> ?_⟩
  cases i with
  |zero=>exact .map
  |succ i=>exact h3 i
 | .cells cs::l,l',h=>by
  simp only[dT]at h
  obtain⟨ds,h0,h⟩:=ac.1 h
  obtain⟨r,h1,h⟩:=ac.1 h
  simp only[Option.some.injEq]at h
  subst h
  obtain⟨h2,h3⟩:=iX h1
  refine⟨by simp[h2],fun i=> ?_⟩
  cases i with
  |zero=>exact .cells h0
  |succ i=>exact h3 i
theorem ObOuter.live {o o':Ob}(h:ObOuter L o o'):aK o'↔aK o:=by cases h<;>exact Iff.rfl
theorem ll {nl:Nat}(hn: ∀i,i<G.n L→i<nl):Le G w (G.push L nl) w:=by
 refine⟨fun _ _ _ h hb=>⟨h,hb⟩,fun lev i h=>⟨?_,rfl,rfl⟩,fun _ _ _ h hc=>⟨h,hc⟩,fun b cur e fz h=>⟨cur,fz,h,rfl⟩⟩
 simp only[Gh.push]
 split
 ·rename_i e;subst e;exact hn i h
 ·exact h
mutual
theorem wH {L' nl':Nat}: ∀(x:LV) (v:Value),LVR G w L 0 x v→LVR G w L' nl' x v
 | .cv c,v,h=>by simpa[LVR]using h
 | .osl xs,v,h=>by simpa[LVR]using h
 | .ost xs,v,h=>by simpa[LVR]using h
 | .stl n,v,h=>by simpa[LVR]using h
 | .loc i off,v,h=>by simp only[LVR]at h;omega
 | .lsl i off len,v,h=>by simp only[LVR]at h;omega
 | .mloc i,v,h=>by simp only[LVR]at h;omega
 | .tloc i t n,v,h=>by simp only[LVR]at h;omega
 | .lclo f caps,v,h=>by
  simp only[LVR]at h ⊢
  obtain⟨vs,e,hl⟩:=h
  exact⟨vs,e,sD caps _ hl⟩
 | .ltup xs,v,h=>by
  simp only[LVR]at h ⊢
  obtain⟨vs,e,hl⟩:=h
  exact⟨vs,e,sD xs _ hl⟩
theorem sD {L' nl':Nat}: ∀(xs:List LV) (vs:List Value),bT G w L 0 xs vs→bT G w L' nl' xs vs
 |[],vs,h=>by simpa[bT]using h
 |x::xs,vs,h=>by
  simp only[bT]at h ⊢
  obtain⟨v,r,e,h0,h1,h2⟩:=h
  exact⟨v,r,e,h0,wH x v h1,sD xs r h2⟩
end
theorem Rel.enterP {s:S}{tm cargs:Array Value}{args args':List LV}{l:Lam}{ts:List Nat}(R:Rel G L s μ tm w)(A:ArgsR G w L s tm ts args cargs)(ha:gx L args=some args')(hl:dT L s.lam=some l):
  Rel (G.push L s.lam.length) (L+1) (aP args') (μ++[l]) cargs w∧
  (∀q b,ay (G.push L s.lam.length) w (aP args').fr cargs ((μ++[l])++[(aP args').lam]) q b→(∃j x,q= .fr j∧args[j]? =some x∧aH x (cargs.getD j undef) b)∨(∃lev i k,q= .ob lev i k∧ay G w s.fr tm (μ++[s.lam]) q b))∧
  (∀lev i,aK (aE ((μ++[l])++[(aP args').lam]) lev i)→aK (aE (μ++[s.lam]) lev i)):=by
 have hμ:=R.lev
 obtain⟨hll,hlg⟩:=iX hl
 obtain⟨hal,hag⟩:=gW ha
 have hnL: ∀i,i<G.n L→i<s.lam.length:=fun i hi=>by
  have:=R.nL
  split at this<;>omega
 have hle:Le G w (G.push L s.lam.length) w:=ll hnL
 have hleB:Le G w ((G.push L s.lam.length).below L) w:=by
  refine⟨fun _ _ _ h hb=>⟨h,hb⟩,fun lev i h=>⟨?_,rfl,rfl⟩,fun _ _ _ h hc=>⟨h,hc⟩,fun b cur e fz h=>⟨cur,fz,h,rfl⟩⟩
  have hlv:lev≤L:=by
   by_cases hh:lev≤L
   ·exact hh
   ·have:=R.ngt lev (by omega);omega
  simp only[Gh.below,if_pos hlv,Gh.push]
  split
  ·rename_i e;subst e;exact hnL i h
  ·exact h
 have hnB: ∀i,i<s.lam.length→i<(G.push L s.lam.length).n L∧(G.push L s.lam.length).β L i=G.β L i∧(G.push L s.lam.length).sz L i=G.sz L i:=fun i hi=>⟨by simp only[Gh.push,if_true];exact hi,rfl,rfl⟩
 have hnB2: ∀i,i<s.lam.length→i<((G.push L s.lam.length).below L).n L∧((G.push L s.lam.length).below L).β L i=G.β L i∧((G.push L s.lam.length).below L).sz L i=G.sz L i:=fun i hi=>⟨by simp only[Gh.below,Nat.le_refl,Gh.push,if_true];exact hi,rfl,rfl⟩
 have eL: ∀i,aE (μ++[s.lam]) L i=aG s.lam i:=fun i=>by rw[←hμ];exact br
 have eL2: ∀i,aU (μ++[l]) L i=aG l i:=fun i=>by rw[←hμ];exact br
 have eO: ∀lev i,aK (aE ((μ++[l])++[(aP args').lam]) lev i)→(lev<L∧aE ((μ++[l])++[(aP args').lam]) lev i=aE (μ++[s.lam]) lev i)∨(lev=L∧aE ((μ++[l])++[(aP args').lam]) lev i=aG l i):=by
  intro lev i h
  obtain⟨h1,h2⟩:=lG h
  simp only[List.length_append,List.length_cons,List.length_nil]at h1
  by_cases hlt:lev<L
  ·refine .inl ⟨hlt,?_⟩
   rw[show aE ((μ++[l])++[(aP args').lam]) lev i=aU (μ++[l]) lev i from h2,ba (by omega),aE,ba (by omega)]
  ·have:lev=L:=by omega
   subst this
   exact .inr ⟨rfl,by rw[show aE ((μ++[l])++[(aP args').lam]) lev i=aU (μ++[l]) lev i from h2,eL2]⟩
 have hlive: ∀lev i,aK (aE ((μ++[l])++[(aP args').lam]) lev i)→aK (aE (μ++[s.lam]) lev i):=by
  intro lev i h
  rcases eO lev i h with⟨_,e⟩|⟨rfl,e⟩
  ·rw[←e];exact h
  ·rw[eL];rw[e]at h;exact(hlg i).live.1 h
 have hown: ∀q b,ay (G.push L s.lam.length) w (aP args').fr cargs ((μ++[l])++[(aP args').lam]) q b→(∃j x,q= .fr j∧args[j]? =some x∧aH x (cargs.getD j undef) b)∨(∃lev i k,q= .ob lev i k∧ay G w s.fr tm (μ++[s.lam]) q b):=by
  intro q b h
  cases q with
  |fr t=>
   simp only[ay,ct]at h
   cases hx:args'[t]? with
   |none=>rw[hx]at h;simp[aH]at h
   |some y=>
    rw[hx]at h
    obtain⟨x,hx2,hxy⟩:=hag t y hx
    exact .inl ⟨t,x,rfl,hx2,((mc (L':=L) (nl':=0) hle rfl hnB (A.val t x hx2) hxy).2 b).1 h⟩
  |ob lev i k=>
   have hl':=fo h
   refine .inr ⟨lev,i,k,rfl,?_⟩
   rcases eO lev i hl' with⟨_,e⟩|⟨rfl,e⟩
   ·exact fp (fr':=(aP args').fr) (tm':=cargs) e rfl rfl h
   ·simp only[ay,e]at h
    split at h<;>try(exact h.elim)
    rename_i ds hds
    split at h<;>try(exact h.elim)
    rename_i y hy
    obtain⟨cur,e',fz,hb,ho⟩:=h
    have hoo:=hlg i
    rw[hds]at hoo
    generalize hq:aG s.lam i=q at hoo
    cases hoo with
    |cells hto=>
     rename_i cs
     obtain⟨_,hg⟩:=gW hto
     obtain⟨x,hx,hxy⟩:=hg k y hy
     have hob:=R.lam i
     rw[hq]at hob
     simp only[ObR]at hob
     obtain⟨cur2,e2,fz2,hb2,_,_,_,hr⟩:=hob
     have hb':w.heap[G.β lev i]? =some (.cells cur e' fz):=hb
     rw[hb2]at hb'
     obtain⟨rfl,rfl,rfl⟩:=(Obj.cells.injEq ..).mp (Option.some.inj hb')
     simp only[ay,eL,hq,hx]
     exact⟨cur2,e2,fz2,hb2,((mc (L':=lev) (nl':=0) hle rfl hnB (hr k x hx) hxy).2 b).1 ho⟩
 refine⟨⟨by simp[hμ],fun t=> ?_,fun i=> ?_,fun lev i hlt=> ?_,fun lev i lev' i' h h' e=>R.inj lev i lev' i' (hlive lev i h) (hlive lev' i' h') e,fun q q' b h h'=> ?_,fun q b lev i h h' e=> ?_,fun lev hlt=> ?_,?_,fun lev hlt=> ?_⟩,hown,hlive⟩
 ·rw[ct]
  cases hx:args'[t]? with
  |none=>simp[LVR,VR]
  |some y=>
   obtain⟨x,hx2,hxy⟩:=hag t y hx
   exact(mc hle rfl hnB (A.val t x hx2) hxy).1
 ·have:aG (aP args').lam i= .dead:=by simp[aP,aG]
  rw[this];trivial
 ·by_cases h1:lev<L
  ·have e1:aU (μ++[l]) lev i=aU μ lev i:=ba (by omega)
   rw[e1]
   have hle2:Le (G.below lev) w ((G.push L s.lam.length).below lev) w:=hle.below lev
   exact ci hle2 (Nat.le_refl _) (fun _ h=>by omega) (fun _=>⟨rfl,rfl⟩) (fun _ _ _ _ _ _ _ _ _ _ _=>⟨rfl,rfl⟩) (R.mu lev i h1)
  ·have:lev=L:=by omega
   subst this
   rw[eL2]
   have hoo:=hlg i
   have hob:=R.lam i
   revert hob hoo
   generalize aG s.lam i=q
   generalize aG l i=q'
   intro hoo hob
   cases hoo with
   |dead=>trivial
   |arr=>
    simp only[ObR]at hob ⊢
    obtain⟨hk,cur,e,fz,h1,h2,h3,h4,h5⟩:=hob
    exact⟨hk,cur,e,fz,h1,h2,h3,h4,fun j x hx=>bi hleB x _ (h5 j x hx)⟩
   |map=>
    simp only[ObR]at hob ⊢
    obtain⟨es,clk,h1,h2,h3⟩:=hob
    exact⟨es,clk,h1,h2,me hleB h3⟩
   |cells hto=>
    obtain⟨hln,hg⟩:=gW hto
    simp only[ObR]at hob ⊢
    obtain⟨cur,e,fz,h1,h2,h3,h4,h5⟩:=hob
    refine⟨cur,e,fz,h1,h2,h3,by rw[hln];exact h4,fun j y hy=> ?_⟩
    obtain⟨x,hx,hxy⟩:=hg j y hy
    exact(mc hleB rfl hnB2 (h5 j x hx) hxy).1
 ·rcases hown q b h with⟨j,x,rfl,hx,hox⟩|⟨lev,i,k,rfl,h1⟩<;>rcases hown q' b h' with⟨j',x',rfl,hx',hox'⟩|⟨lev',i',k',rfl,h1'⟩
  ·rw[(A.own j x b hx hox).2 j' x' hx' hox']
  ·obtain⟨t,_,ht⟩:=(A.own j x b hx hox).1
   exact absurd (R.own (.fr t) _ b ht h1') (by simp)
  ·obtain⟨t,_,ht⟩:=(A.own j' x' b hx' hox').1
   exact absurd (R.own (.fr t) _ b ht h1) (by simp)
  ·exact R.own _ _ b h1 h1'
 ·rcases hown q b h with⟨j,x,rfl,hx,hox⟩|⟨lev',i',k,rfl,h1⟩
  ·obtain⟨t,_,ht⟩:=(A.own j x b hx hox).1
   exact R.apart (.fr t) b lev i ht (hlive lev i h') e
  ·exact R.apart _ b lev i h1 (hlive lev i h') e
 ·by_cases h1:lev<L
  ·have:(G.push L s.lam.length).n lev=G.n lev:=by simp only[Gh.push];rw[if_neg (by omega)]
   rw[this,R.nlt lev h1]
   simp only[List.getD_eq_getElem?_getD,List.getElem?_append_left (show lev<μ.length by omega)]
  ·have:lev=L:=by omega
   subst this
   subst hμ
   simp[Gh.push,hll]
 ·have h1:=R.ngt (L+1) (by omega)
  have:(G.push L s.lam.length).n (L+1)=G.n (L+1):=by simp only[Gh.push];rw[if_neg (by omega)]
  simp only[aP,Bool.false_eq_true,if_false]
  rw[this,h1]
 ·have:(G.push L s.lam.length).n lev=G.n lev:=by simp only[Gh.push];rw[if_neg (by omega)]
  rw[this];exact R.ngt lev (by omega)
theorem Rel.mergeP {s sr:S}{tm tmr:Array Value}{T:Nat→Prop}{O':Nat→Nat}{l':Lam}(R:Rel G L s μ tm w)
  (hT: ∀b,T b→ ∀t,¬aH (s.fr t) (tm.getD t undef) b)
  (hlam:sr.lam=[]) (Rc:Rel ((G.push L s.lam.length).withO O') (L+1) sr (μ'++[l']) tmr w') (E:Ext (L+1) T (G.push L s.lam.length) w ((G.push L s.lam.length).withO O') w' (aB ((G.push L s.lam.length).withO O') w' sr (μ'++[l']) tmr)):
  Rel ((G.push L s.lam.length).withO O') L {s with lam:=l',pushed:=true} μ' tm w'∧
  (∀q b,ay ((G.push L s.lam.length).withO O') w' s.fr tm (μ'++[l']) q b→(b<w.heap.size∧ ¬T b∧ay G w s.fr tm (μ++[s.lam]) q b)∨((∃lev i k,q= .ob lev i k)∧ay ((G.push L s.lam.length).withO O') w' sr.fr tmr ((μ'++[l'])++[sr.lam]) q b))∧
  (∀lev i,aK (aE (μ'++[l']) lev i)→aK (aE ((μ'++[l'])++[sr.lam]) lev i)):=by
 have hμ':μ'.length=L:=by have:=Rc.lev;simp at this;omega
 have hnL: ∀i,i<G.n L→i<s.lam.length:=fun i hi=>by
  have:=R.nL
  split at this<;>omega
 have hle0:Le G w (G.push L s.lam.length) w:=ll hnL
 have hle:=hle0.trans E.le
 have hlen:s.lam.length=l'.length:=by
  have:=Rc.nlt L (by omega)
  simp only[Gh.withO,Gh.push,if_true,List.getD_eq_getElem?_getD]at this
  rw[List.getElem?_append_right (by omega)]at this
  simpa[hμ']using this
 have hfrT: ∀t b,aH (s.fr t) (tm.getD t undef) b→b<w.heap.size∧ ¬T b:=fun t b hb=>⟨R.touch_lt (.inl ⟨.fr t,hb⟩),fun h=>hT b h t hb⟩
 have hkeep: ∀b,b<w.heap.size→ ¬T b→w'.heap[b]? =w.heap[b]? ∧((G.push L s.lam.length).withO O').O b=G.O b:=fun b hb hn=>E.keep b hb hn
 have eO: ∀lev i,aK (aE (μ'++[l']) lev i)→aE ((μ'++[l'])++[sr.lam]) lev i=aE (μ'++[l']) lev i:=by
  intro lev i h
  have:lev<(μ'++[l']).length:=by
   by_cases hh:lev<(μ'++[l']).length
   ·exact hh
   ·simp only[aE,aU]at h
    rw[List.getElem?_eq_none (by omega)]at h
    exact h.elim
  exact ba this
 have hlive: ∀lev i,aK (aE (μ'++[l']) lev i)→aK (aE ((μ'++[l'])++[sr.lam]) lev i):=fun lev i h=>by rw[eO lev i h];exact h
 have hown: ∀q b,ay ((G.push L s.lam.length).withO O') w' s.fr tm (μ'++[l']) q b→(b<w.heap.size∧ ¬T b∧ay G w s.fr tm (μ++[s.lam]) q b)∨((∃lev i k,q= .ob lev i k)∧ay ((G.push L s.lam.length).withO O') w' sr.fr tmr ((μ'++[l'])++[sr.lam]) q b):=by
  intro q b h
  cases q with
  |fr t=>exact .inl ⟨(hfrT t b h).1,(hfrT t b h).2,h⟩
  |ob lev i k=>exact .inr ⟨⟨_,_,_,rfl⟩,fp (fr':=s.fr) (tm':=tm) (eO lev i (fo h)).symm rfl rfl h⟩
 have hTr:=E.grow
 refine⟨⟨hμ',fun t=> ?_,fun i=> ?_,fun lev i hlt=> ?_,fun lev i lev' i' h h' e=>Rc.inj lev i lev' i' (hlive lev i h) (hlive lev' i' h') e,fun q q' b h h'=> ?_,fun q b lev i h h' e=> ?_,fun lev hlt=> ?_,?_,fun lev hlt=> ?_⟩,hown,hlive⟩
 ·exact cZ hle (by simp only;omega) (fun _ _=>⟨rfl,rfl⟩) _ _ (fun b hb=>hkeep b (hfrT t b hb).1 (hfrT t b hb).2) (R.fr t)
 ·have h1:=Rc.mu L i (by omega)
  have e1:aU (μ'++[l']) L i=aG l' i:=by rw[←hμ'];exact br
  rw[e1]at h1
  revert h1
  generalize aG l' i=q
  intro h1
  cases q with
  |dead=>trivial
  |cells cs=>
   simp only[ObR]at h1 ⊢
   obtain⟨cur,e,fz,a1,a2,a3,a4,a5⟩:=h1
   exact⟨cur,e,fz,a1,a2,a3,a4,fun j x hx=>ov x _ (a5 j x hx)⟩
  |arr kk cs=>
   simp only[ObR]at h1 ⊢
   obtain⟨hk,cur,e,fz,a1,a2,a3,a4,a5⟩:=h1
   exact⟨hk,cur,e,fz,a1,a2,a3,a4,fun j x hx=>bi (nw _ _ _) x _ (a5 j x hx)⟩
  |map ks vs=>
   simp only[ObR]at h1 ⊢
   obtain⟨es,clk,a1,a2,a3⟩:=h1
   exact⟨es,clk,a1,a2,me (nw _ _ _) a3⟩
 ·have h1:=Rc.mu lev i (by omega)
  have e1:aU (μ'++[l']) lev i=aU μ' lev i:=ba (by omega)
  rw[e1]at h1
  exact h1
 ·rcases hown q b h with⟨h1,h2,h3⟩|⟨⟨_,_,_,rfl⟩,h3⟩<;>rcases hown q' b h' with⟨h1',h2',h3'⟩|⟨⟨_,_,_,rfl⟩,h3'⟩
  ·exact R.own q q' b h3 h3'
  ·exfalso
   rcases hTr b (.inl ⟨_,h3'⟩)with hh|hh
   ·exact h2 hh
   ·omega
  ·exfalso
   rcases hTr b (.inl ⟨_,h3⟩)with hh|hh
   ·exact h2' hh
   ·omega
  ·exact Rc.own _ _ b h3 h3'
 ·have h3':=hlive lev i h'
  rcases hown q b h with⟨h1,h2,h3⟩|⟨⟨_,_,_,rfl⟩,h3⟩
  ·rcases hTr b (.inr ⟨lev,i,h3',e⟩)with hh|hh
   ·exact h2 hh
   ·omega
  ·exact Rc.apart _ b lev i h3 h3' e
 ·have h1:=Rc.nlt lev (by omega)
  rw[h1]
  simp only[List.getD_eq_getElem?_getD,List.getElem?_append_left (show lev<μ'.length by omega)]
 ·simp only[if_true]
  simp only[Gh.withO,Gh.push,if_true]
  exact hlen
 ·simp only[Gh.withO,Gh.push]
  rw[if_neg (by omega)]
  exact R.ngt lev hlt
end
section
variable {P:Program}{W0:World}{ρ:Rho}{α:Type}{L:Nat}{G:Gh}{w:World}{s:S}{μ:Mu}{a:Act}{o:Oper}{h:OpHint}{k:LV→S→Mu→Option α}{p:CV→S→Mu→Option α}{r:α}{K:Act→World→Prop}{Q:Exit→Act→World→Prop}
theorem rO {q:Mu×Lam}(h:jp μ=some q):μ=q.1++[q.2]:=by
 unfold jp at h
 split at h<;>simp only[Option.some.injEq,reduceCtorEq]at h
 rename_i l r e
 subst h
 have:=congrArg List.reverse e
 simpa using this
theorem ArgsR.strip {ts:List Nat}{args:List LV}{cargs:Array Value}(A:ArgsR G w L s a.tmps ts args cargs):True:=trivial
theorem QM {f:FuncId}{args args':List LV}{l:Lam}{cargs:Array Value}(R:Rel G L s μ a.tmps w)(hd: ∀d,o.dst=some d→d<a.tmps.size)(hk:KOK L G w s μ a o.dst k r K)(hpk:POK L G w s μ a p r Q)
  (hrho: ∀f args μ out,ρ.call f args μ=some out→cR P W0 f args μ out) (hkn:Kn W0 w (aB G w s μ a.tmps)) (A:ArgsR G w L s a.tmps h.take args cargs) (ha:gx μ.length args=some args') (hlm:dT μ.length s.lam=some l)
  (hrun:(∃fn c,P.funcs[f]? =some fn∧fn.body=some c∧(fn.name == "runtime.NumGoroutine")=false)→(execOp a.eval o).run P w= .ok (.enter f cargs) w)
  (hop : callK (ρ.call f args' (μ ++ [l])) (fun v μ => opt (jp μ) fun q => cW P h.own o.type v fun v => k v { ab h.take s with lam := q.2, pushed := true } q.1)
    (fun v μ=>opt (jp μ) fun q=>p v {ab h.take s with lam:=q.2,pushed:=true} q.1)=some r):o.wp P a w K Q:=by
 obtain⟨out,hout,hop⟩:=ac.1 hop
 obtain⟨hfn,hM⟩:=hrho _ _ _ _ hout
 have hμ:=R.lev
 rw[hμ]at ha hlm
 obtain⟨R1,E1,hO⟩:=cH R h.take
 have hl:=aQ h.take s
 obtain⟨Re,hown,hlive⟩:=R.enterP A ha hlm
 have hT: ∀b,aB (G.push L s.lam.length) w (aP args') (μ++[l]) cargs b→ ∀t,¬aH ((ab h.take s).fr t) (a.tmps.getD t undef) b:=by
  rintro b (⟨q,hb⟩|⟨lev,i,hb,rfl⟩) t ht
  ·rcases hown q b hb with⟨j,x,rfl,hx,ho⟩|⟨lev,i,k,rfl,ho⟩
   ·obtain⟨⟨u,hu,hou⟩,_⟩:=A.own j x b hx ho
    obtain⟨a1,a2⟩:=hO (.fr t) b ht
    exact a1 u hu (R.own _ (.fr u) b a2 hou)
   ·have:=R.own _ _ b (hO (.fr t) b ht).2 ho
    cases this
  ·exact R.apart _ _ lev i (hO (.fr t) _ ht).2 (hlive lev i hb) rfl
 have hT0: ∀b,aB (G.push L s.lam.length) w (aP args') (μ++[l]) cargs b→aB G w s μ a.tmps b:=by
  rintro b (⟨q,hb⟩|⟨lev,i,hb,rfl⟩)
  ·rcases hown q b hb with⟨j,x,rfl,hx,ho⟩|⟨lev,i,k,rfl,ho⟩
   ·obtain⟨⟨u,hu,hou⟩,_⟩:=A.own j x b hx ho
    exact .inl ⟨.fr u,hou⟩
   ·exact .inl ⟨_,ho⟩
  ·exact .inr ⟨lev,i,hlive lev i hb,rfl⟩
 have hcall:=hM (G.push L s.lam.length) w cargs (by rw[A.size,(gW ha).1]) (by rw[List.length_append,hμ];exact Re) (hkn.mono hT0)
 rw[show (μ++[l]).length=L+1 by simp[hμ]]at hcall
 unfold Oper.wp
 rw[hrun hfn,Oper.upon_enter]
 refine hcall.mono fun e w' hR=> ?_
 have hnL: ∀i,i<G.n L→i<s.lam.length:=fun i hi=>by
  have:=R.nL
  split at this<;>omega
 have merge: ∀{O':Nat→Nat} {sr:S} {μ':Mu} {l':Lam} {tmr:Array Value},sr.lam=[]→Rel ((G.push L s.lam.length).withO O') (L+1) sr (μ'++[l']) tmr w'→
   Ext (L+1) (aB (G.push L s.lam.length) w (aP args') (μ++[l]) cargs) (G.push L s.lam.length) w ((G.push L s.lam.length).withO O') w' (aB ((G.push L s.lam.length).withO O') w' sr (μ'++[l']) tmr)→
   Rel ((G.push L s.lam.length).withO O') L {ab h.take s with lam:=l',pushed:=true} μ' a.tmps w'∧Ext L (aB G w s μ a.tmps) G w ((G.push L s.lam.length).withO O') w' (aB ((G.push L s.lam.length).withO O') w' {ab h.take s with lam:=l',pushed:=true} μ' a.tmps)∧
   (∀b,aB ((G.push L s.lam.length).withO O') w' sr (μ'++[l']) tmr b→(aB G w s μ a.tmps b∨w.heap.size≤b))∧
   (∀ t b, ay ((G.push L s.lam.length).withO O') w' sr.fr tmr ((μ' ++ [l']) ++ [sr.lam]) (.fr t) b → (∀ q, ¬ ay ((G.push L s.lam.length).withO O') w' (ab h.take s).fr a.tmps (μ' ++ [l']) q b) ∧
    ∀lev i,aK (aE (μ'++[l']) lev i)→((G.push L s.lam.length).withO O').β lev i≠b):=by
  intro O' sr μ' l' tmr hlam Rc E
  have hsl:(ab h.take s).lam.length=s.lam.length:=by rw[hl.1]
  obtain⟨R2,h2,h3⟩:=R1.mergeP (O':=O') hT hlam (by rw[hsl];exact Rc) (by rw[hsl];exact E)
  rw[hsl]at R2 h2
  have hin: ∀b,aB ((G.push L s.lam.length).withO O') w' sr (μ'++[l']) tmr b→(aB G w s μ a.tmps b∨w.heap.size≤b):=fun b hb=>(E.grow b hb).imp (hT0 b) id
  refine⟨R2,⟨(ll hnL).trans E.le,E.os,E.tape,E.output,E.size,fun b hb hn=>E.keep b hb fun hh=>hn (hT0 b hh),fun b hb=> ?_,fun lv hlv=> ?_⟩,hin,fun t b hb=>⟨fun q hq=> ?_,fun lev i hli e=>Rc.apart _ b lev i hb (h3 lev i hli) e⟩⟩
  ·rcases hb with⟨q,hb⟩|⟨lev,i,hb,rfl⟩
   ·rcases h2 q b hb with⟨_,_,h4⟩|⟨_,h4⟩
    ·exact .inl (.inl ⟨q,(hO q b h4).2⟩)
    ·exact hin b (.inl ⟨q,h4⟩)
   ·exact hin _ (.inr ⟨lev,i,h3 lev i hb,rfl⟩)
  ·refine⟨fun _=>⟨rfl,rfl⟩,?_⟩
   simp only[Gh.withO,Gh.push]
   rw[if_neg (by omega)]
  ·rcases h2 q b hq with⟨h4,h5,_⟩|⟨⟨_,_,_,rfl⟩,h4⟩
   ·rcases E.grow b (.inl ⟨_,hb⟩)with hh|hh
    ·exact h5 hh
    ·omega
   ·have:=Rc.own _ _ b hb h4
    cases this
 cases out with
 |ret v μx=>
  cases e with
  |returned cv=>
   simp only[fK]at hR
   obtain⟨O',Rc,E⟩:=hR
   obtain⟨q,hq,hop2⟩:=ac.1 hop
   clear hop
   have hq':=rO hq
   subst hq'
   obtain⟨R2,E2,hin,hfr⟩:=merge rfl Rc E
   obtain⟨y,hy,hyr⟩:=fF hop2
   have hv:LVR ((G.push L s.lam.length).withO O') w' (L+1) 0 v cv:=by
    have:=Rc.fr 0
    simp only[ct,List.getElem?_cons_zero,Option.getD_some]at this
    simpa[aP]using this
   obtain⟨hy1,hy2⟩:=hyr ((G.push L s.lam.length).withO O') w' L q.2.length cv (wH v cv hv)
   obtain ⟨R3, E3⟩ := cg (dst := o.dst) (v := y) (cv := cv) R2 E2 hy1 (fun b hb => by
    have hat:ay ((G.push L s.lam.length).withO O') w' (aP [v]).fr #[cv] ((q.1++[q.2])++[(aP [v]).lam]) (.fr 0) b:=by
     have:=hy2 b hb
     simpa[ay,ct]using this
    exact⟨(hfr 0 b hat).1,(hfr 0 b hat).2,hin b (.inl ⟨_,hat⟩)⟩) hd
   exact hk y _ _ cv w' _ hy R3 E3
  |panicked ch=>simp[fK]at hR
  |outgrown=>simp[fK]at hR
 |panic v μx=>
  cases e with
  |returned cv=>simp[fK]at hR
  |panicked ch=>
   simp only[fK]at hR
   obtain⟨O',pv,rfl,hv,Rc,E⟩:=hR
   obtain⟨q,hq,hop2⟩:=ac.1 hop
   clear hop
   have hq':=rO hq
   subst hq'
   obtain⟨R2,E2,_,_⟩:=merge rfl Rc E
   exact hpk v _ _ pv w' _ hop2 R2 hv E2
  |outgrown=>simp[fK]at hR
end
end Go.Abs
set_option linter.unusedVariables false
set_option linter.unusedSimpArgs false
namespace Go.Abs
open Go Go.MapKept
section
variable {G:Gh}{w:World}{L:Nat}{P:Program}
theorem Gf {d:TypeDesc}{v:Value}(h:DY d v=true):IsKey d v:=by
 cases d<;>cases v<;>simp_all [DY,IsKey]
theorem lW {d:TypeDesc}: ∀{ks:List Value},kQ d ks=true→ ∀x∈ks,IsKey d x
 |[],_,x,hx=>by simp at hx
 |k::r,h,x,hx=>by
  simp only[kQ]at h
  split at h<;>try(cases h;done)
  rename_i hk
  rcases List.mem_cons.1 hx with rfl|hx
  ·exact Gf hk
  ·exact lW h x hx
theorem sm {d:TypeDesc}{a b:Value}(ha:IsKey d a)(hb:IsKey d b):Instr.sameNow d a b=some (rx a b):=by
 obtain⟨r,h1,h2⟩:=sameNow_of_keys ha hb
 rw[h1]
 congr 1
 rw[Bool.eq_iff_iff,h2]
 cases d<;>cases a<;>cases b<;>simp_all [IsKey,rx]
 rename_i x y
 cases x;cases y
 simp
theorem DQ {d:TypeDesc}{k:Value}(hk:IsKey d k): ∀{es:List MapEntry} {ks:List Value} {vs:List CV} {i:Nat},es.map MapEntry.key=ks→VRL G w vs (es.map MapEntry.val)→(∀x∈ks,IsKey d x)→
  (gQ ks vs k=none→Instr.findNow d k es i=some none)∧(∀c,gQ ks vs k=some c→ ∃j v,Instr.findNow d k es i=some (some (j,v))∧VR G w c v)
 |[],ks,vs,i,he,hv,ho=>by
  subst he
  exact⟨fun _=>rfl,fun c hc=>by simp[gQ]at hc⟩
 |e::es,ks,vs,i,he,hv,ho=>by
  subst he
  cases vs with
  |nil=>simp[VRL]at hv
  |cons c0 vs=>
   simp only[List.map_cons,VRL,List.cons.injEq]at hv
   obtain⟨v,r,⟨rfl,rfl⟩,h1,h2⟩:=hv
   have hs:=sm hk (ho e.key (by simp))
   obtain⟨i1,i2⟩:=DQ hk (i:=i+1) rfl h2 (fun x hx=>ho x (by simp only[List.map_cons,List.mem_cons];exact .inr hx))
   simp only[gQ,List.map_cons,Instr.findNow,hs]
   cases rx k e.key with
   |true=>exact⟨fun h=>by simp at h,fun c hc=>by simp only[Option.some.injEq]at hc;subst hc;exact⟨_,_,rfl,h1⟩⟩
   |false=>exact⟨i1,i2⟩
theorem JM {d:TypeDesc}{k:Value}(hk:IsKey d k): ∀{es:List MapEntry} {i:Nat},(∀x∈es.map MapEntry.key,IsKey d x)→
  (kP (es.map MapEntry.key) k=none→Instr.findNow d k es i=some none)∧(∀n,kP (es.map MapEntry.key) k=some n→ ∃e,es[n]? =some e∧e.key=k∧Instr.findNow d k es i=some (some (i+n,e.val)))
 |[],i,ho=>⟨fun _=>rfl,fun n hn=>by simp[kP]at hn⟩
 |e::es,i,ho=>by
  have hs:=sm hk (ho e.key (by simp))
  obtain⟨i1,i2⟩:=JM hk (es:=es) (i:=i+1) (fun x hx=>ho x (by simp only[List.map_cons,List.mem_cons];exact .inr hx))
  simp only[kP,List.map_cons,Instr.findNow,hs]
  cases hke:rx k e.key with
  |true=>
   refine⟨fun h=>by simp at h,fun n hn=> ?_⟩
   simp only[Option.some.injEq]at hn
   subst hn
   refine⟨e,rfl,?_,rfl⟩
   have:=(sameNow_of_keys hk (ho e.key (by simp)))
   obtain⟨r,h1,h2⟩:=this
   rw[hs,hke]at h1
   simp only[Option.some.injEq]at h1
   exact(h2.1 h1.symm).symm
  |false=>
   refine⟨fun h=>i1 ?_,fun n hn=> ?_⟩
   ·cases hki:kP (es.map MapEntry.key) k with
    |none=>rfl
    |some n=>rw[hki]at h;simp[opt]at h
   ·obtain⟨m,h1,h2⟩:=ac.1 hn
    simp only[Option.some.injEq]at h2
    subst h2
    obtain⟨e',h3,h4,h5⟩:=i2 m h1
    refine⟨e',by simpa using h3,h4,?_⟩
    rw[h5]
    simp only[Option.some.injEq,Prod.mk.injEq,and_true]
    omega
theorem Ke {t kt et:TypeId}{d:TypeDesc}{r:Nat}{es:Array MapEntry}{clk:Nat}{k v:Value}{ks:List Value}{vs:List CV}{c:CV}(hm:P.underlying t=some (.map kt et))(hd:P.underlying kt=some d)
  (hb:w.heap[r]? =some (.map es clk)) (hk:IsKey d k) (hM:sF G w ks vs es) (ho: ∀x∈ks,IsKey d x):
  ∃es' clk',(Instr.mapUpdate t (.map (some r)) k v).run P w= .ok () {w with heap:=w.heap.setIfInBounds r (.map es' clk')}∧es'.toList.map MapEntry.key=lB ks k∧
   ∀G' w',VRL G' w' vs (es.toList.map MapEntry.val)→VR G' w' c v→VRL G' w' (lC ks vs k c) (es'.toList.map MapEntry.val):=by
 obtain⟨hk1,hv1⟩:=hM
 subst hk1
 obtain⟨i1,i2⟩:=JM hk (es:=es.toList) (i:=0) ho
 cases hi:kP (es.toList.map MapEntry.key) k with
 |none=>
  have hf:=i1 hi
  refine⟨es.push {key:=k,val:=v,born:=clk},clk+1,?_,?_,fun G' w' h1 h2=> ?_⟩
  ·simp[Instr.mapUpdate,run_underlying hm,MapKept.run_getObj_map hb,MapKept.run_checkKey hd hk,MapKept.run_findKey hd hf,MapKept.run_setObj_map _ hb,Result.andThen]
  ·simp[lB,hi]
  ·simp only[lC,hi,Array.toList_push,List.map_append,List.map_cons,List.map_nil]
   revert h1
   generalize es.toList.map MapEntry.val=l
   clear hv1
   induction vs generalizing l with
   |nil=>intro h1;simp only[VRL]at h1;subst h1;simpa[VRL]using h2
   |cons x vs ih=>
    intro h1
    simp only[VRL]at h1
    obtain⟨u,q,rfl,a1,a2⟩:=h1
    simp only[List.cons_append,VRL]
    exact⟨u,_,rfl,a1,ih _ a2⟩
 |some n=>
  obtain⟨e,he,hek,hf⟩:=i2 n hi
  rw[Nat.zero_add]at hf
  have he':es[n]? =some e:=by simpa using he
  refine⟨es.modify n fun e=>{e with key:=k,val:=v},clk,?_,?_,fun G' w' h1 h2=> ?_⟩
  ·have hks:(Instr.keyThatStays (((es[n]?).map (·.key)).getD k) k).run P w= .ok k w:=by
    rw[he']
    simp only[Option.map_some,Option.getD_some,hek]
    exact run_keyThatStays hk
   simp[Instr.mapUpdate,run_underlying hm,MapKept.run_getObj_map hb,MapKept.run_checkKey hd hk,MapKept.run_findKey hd hf,hks,MapKept.run_setObj_map _ hb,Result.andThen]
  ·simp only[lB,hi]
   exact modify_keys n _ fun e2 h=>by
    rw[he']at h
    simp only[Option.some.injEq]at h
    subst h
    simp[hek]
  ·simp only[lC,hi]
   have hl:(es.modify n fun e=>{e with key:=k,val:=v}).toList.map MapEntry.val=(es.toList.map MapEntry.val).set n v:=by
    apply List.ext_getElem?
    intro j
    simp only[List.getElem?_map,Array.getElem?_toList,Array.getElem?_modify,List.getElem?_set,List.length_map,Array.length_toList]
    by_cases hnj:n=j
    ·subst hnj
     have:n<es.size:=(Array.getElem?_eq_some_iff.1 he').1
     simp[he',this]
    ·simp[hnj]
   rw[hl]
   revert h1
   generalize es.toList.map MapEntry.val=l
   clear hl hv1 hf he he' i1 i2 hi
   induction vs generalizing l n with
   |nil=>intro h1;simp only[VRL]at h1;subst h1;simp[VRL]
   |cons x vs ih=>
    intro h1
    simp only[VRL]at h1
    obtain⟨u,q,rfl,a1,a2⟩:=h1
    cases n with
    |zero=>simp only[List.set_cons_zero,VRL];exact⟨v,q,rfl,h2,a2⟩
    |succ n=>simp only[List.set_cons_succ,VRL];exact⟨u,_,rfl,a1,ih n q a2⟩
theorem Rel.setMap {s s1:S}{μ μ1:Mu}{tm:Array Value}(R:Rel G L s μ tm w){lev i:Nat}{ks ks':List Value}{vs vs':List CV}(hob:aE (μ++[s.lam]) lev i= .map ks vs){es es':Array MapEntry}{clk clk':Nat}
  (hb:w.heap[G.β lev i]? =some (.map es clk)) (hfr:s1.fr=s.fr) (hp:s1.pushed=s.pushed) (hlen:s1.lam.length=s.lam.length) (hμlen:μ1.length=μ.length) (hH:μ1++[s1.lam]=bj (μ++[s.lam]) lev i (.map ks' vs'))
  (hnew: ∀w',Le G w G w'→(lev=L→sF G w' ks' vs' es')∧(lev<L→sF (G.below lev) w' ks' vs' es')):
  let w1:World:={w with heap:=w.heap.setIfInBounds (G.β lev i) (.map es' clk')}
  Rel G L s1 μ1 tm w1∧Ext L (aB G w s μ tm) G w G w1 (aB G w1 s1 μ1 tm):=by
 intro w1
 have hl:aK (aE (μ++[s.lam]) lev i):=by rw[hob];trivial
 have hO:G.O (G.β lev i)=0:=by
  rcases cG R.lev hl with⟨h1,h2⟩|⟨rfl,h1,h2⟩
  ·have:=R.mu lev i h1
   rw[←h2,hob]at this
   simp only[ObR]at this
   obtain⟨_,_,_,h,_⟩:=this
   exact h
  ·have:=R.lam i
   rw[←h2,hob]at this
   simp only[ObR]at this
   obtain⟨_,_,_,h,_⟩:=this
   exact h
 have hw1:w1.heap[G.β lev i]? =some (.map es' clk'):=(heap_set hb).1
 have hblk: ∀b,b≠G.β lev i→w1.heap[b]? =w.heap[b]? :=fun b h=>(heap_set hb).2 b h
 have hsz:w1.heap.size=w.heap.size:=by simp[w1]
 have hle:Le G w G w1:=by
  refine⟨fun b es2 clk2 h hb2=> ?_,fun _ _ h=>⟨h,rfl,rfl⟩,fun b off v h hc=> ?_,fun b cur2 e2 fz2 h=> ?_⟩
  ·have hne:b≠G.β lev i:=fun e=>by subst e;omega
   exact⟨h,by rw[hblk b hne];exact hb2⟩
  ·have hne:b≠G.β lev i:=fun e=>by subst e;omega
   refine⟨h,?_⟩
   rw[←hc]
   simp only[World.cell?]
   rw[hblk b hne]
  ·have hne:b≠G.β lev i:=fun e=>by subst e;rw[hb]at h;cases h
   exact⟨cur2,fz2,by rw[hblk b hne];exact h,rfl⟩
 have hset:=xv (o:=Ob.map ks' vs') hl
 have hAt: ∀l j,aE (μ1++[s1.lam]) l j=if l=lev∧j=i then .map ks' vs' else aE (μ++[s.lam]) l j:=fun l j=>by rw[aE,hH];exact hset l j
 have hlive: ∀l j,aK (aE (μ1++[s1.lam]) l j)→aK (aE (μ++[s.lam]) l j):=by
  intro l j h
  rw[hAt]at h
  split at h
  ·rename_i e;rw[e.1,e.2];exact hl
  ·exact h
 have hne: ∀l j,aK (aE (μ++[s.lam]) l j)→ ¬(l=lev∧j=i)→G.β l j≠G.β lev i:=fun l j h hn e=>hn (R.inj l j lev i h hl e)
 have hownAt: ∀l b,ay G w1 s1.fr tm (μ1++[s1.lam]) l b→ay G w s.fr tm (μ++[s.lam]) l b:=by
  intro l b h
  cases l with
  |fr t=>rw[hfr]at h;exact h
  |ob l j k=>
   simp only[ay]at h
   split at h<;>try(exact h.elim)
   rename_i cs hcs
   split at h<;>try(exact h.elim)
   rename_i x hx
   obtain⟨cur2,e2,fz2,hb2,ho⟩:=h
   rw[hAt]at hcs
   by_cases e:l=lev∧j=i
   ·rw[if_pos e]at hcs;cases hcs
   ·rw[if_neg e]at hcs
    have hl2:aK (aE (μ++[s.lam]) l j):=by rw[hcs];trivial
    rw[hblk _ (hne l j hl2 e)]at hb2
    simp only[ay,hcs,hx]
    exact⟨cur2,e2,fz2,hb2,ho⟩
 have hownBlk: ∀l b,ay G w s.fr tm (μ++[s.lam]) l b→w1.heap[b]? =w.heap[b]? ∧G.O b=G.O b:=fun l b h=>⟨hblk b fun e=>R.apart l b lev i h hl e.symm,rfl⟩
 have hlvl:lev≤L:=by rcases cG R.lev hl with⟨h1,_⟩|⟨h1,_⟩<;>omega
 refine ⟨⟨by rw [hμlen]; exact R.lev, fun t => ?_, fun j => ?_, fun l j hlt => ?_, fun l j l' j' h h' e' => R.inj l j l' j' (hlive l j h) (hlive l' j' h') e', fun l l' b h h' => R.own l l' b (hownAt l b h) (hownAt l' b h'), fun l b l' j h h' e' => R.apart l b l' j (hownAt l b h) (hlive l' j h') e', fun l hlt => ?_, ?_, R.ngt⟩,
  ⟨hle,rfl,rfl,rfl,by rw[hsz];exact Nat.le_refl _,fun b hb' hn=>⟨hblk b fun e=>hn (.inr ⟨lev,i,hl,e.symm⟩),rfl⟩,fun b hb'=> .inl ?_,fun _ _=>⟨fun _=>⟨rfl,rfl⟩,rfl⟩⟩⟩
 ·rw[hfr,hlen]
  exact cZ hle (Nat.le_refl _) (fun _ _=>⟨rfl,rfl⟩) _ _ (fun b hb=>hownBlk (.fr t) b hb) (R.fr t)
 ·rw[hlen]
  have e1:aE (μ1++[s1.lam]) L j=aG s1.lam j:=by rw[←R.lev,←hμlen];exact br
  have e2:aE (μ++[s.lam]) L j=aG s.lam j:=by rw[←R.lev];exact br
  rw[←e1,hAt]
  split
  ·rename_i e
   obtain⟨rfl,rfl⟩:=e
   simp only[ObR]
   exact⟨es',clk',hw1,hO,(hnew w1 hle).1 rfl⟩
  ·rename_i e
   rw[e2]
   refine ci hle (Nat.le_refl _) (fun _ _=>⟨rfl,rfl⟩) (fun h=>⟨hblk _ (hne L j (by rw[e2];exact h) e),rfl⟩) (fun cs k x cur e fz ho hx hb b' hb'=>hownBlk (.ob L j k) b' ?_) (R.lam j)
   simp only[ay,e2,ho,hx]
   exact⟨cur,e,fz,hb,hb'⟩
 ·have e1:aE (μ1++[s1.lam]) l j=aU μ1 l j:=ba (by rw[hμlen,R.lev];exact hlt)
  have e2:aE (μ++[s.lam]) l j=aU μ l j:=ba (by rw[R.lev];exact hlt)
  rw[←e1,hAt]
  split
  ·rename_i e
   obtain⟨rfl,rfl⟩:=e
   simp only[ObR]
   exact⟨es',clk',hw1,hO,(hnew w1 hle).2 hlt⟩
  ·rename_i e
   rw[e2]
   refine ci (hle.below l) (Nat.le_refl _) (fun _ h=>by omega) (fun h=>⟨hblk _ (hne l j (by rw[e2];exact h) e),rfl⟩) (fun cs k x cur e fz ho hx hb b' hb'=>hownBlk (.ob l j k) b' ?_) (R.mu l j hlt)
   simp only[ay,e2,ho,hx]
   exact⟨cur,e,fz,hb,hb'⟩
 ·have h1:(μ1.getD l []).length=(μ.getD l []).length:=by
   have:=(iW (H:=μ++[s.lam]) (lev:=lev) (i:=i) (o:=Ob.map ks' vs')).2 l
   rw[←hH]at this
   have a1:l<μ1.length:=by rw[hμlen,R.lev];exact hlt
   have a2:l<μ.length:=by rw[R.lev];exact hlt
   simp only[List.getD_eq_getElem?_getD,List.getElem?_append_left a1,List.getElem?_append_left a2]at this ⊢
   exact this
  rw[h1];exact R.nlt l hlt
 ·rw[hp,hlen];exact R.nL
 ·rcases hb' with⟨l,hb'⟩|⟨l,j,h,rfl⟩
  ·exact .inl ⟨l,hownAt l b hb'⟩
  ·exact .inr ⟨l,j,hlive l j h,rfl⟩
end
section
variable {P:Program}{ρ:Rho}{α:Type}{L:Nat}{G:Gh}{w:World}{s:S}{μ:Mu}{a:Act}{o:Oper}{h:OpHint}{k:LV→S→Mu→Option α}{p:CV→S→Mu→Option α}{r:α}{K:Act→World→Prop}{Q:Exit→Act→World→Prop}
theorem zO {t:TypeId}{z:CV}(hz:zN P t=some z): ∃zv,(zeroValue t).run P w= .ok zv w∧VR G w z zv:=by
 unfold zN at hz
 split at hz<;>try(simp at hz;done)
 rename_i i hi
 split at hz<;>try(simp at hz;done)
 rename_i zv hzv
 refine⟨zv,by simp[zeroValue,typeInfo,hi,hzv],?_⟩
 split at hz
 ·rename_i cs
  simp only[Option.some.injEq]at hz
  subst hz
  simp only[VR]
  refine⟨cs,rfl,?_⟩
  generalize cs.toList=l
  induction l with
  |nil=>simp[VRL]
  |cons x l ih=>simp only[List.map_cons,VRL];exact⟨x,l,rfl,by simp[VR],ih⟩
 ·simp only[Option.some.injEq]at hz
  subst hz
  simp[VR]
theorem vK {nl:Nat}{c:CV}{v:Value}{b:Bool}(h:VR G w c v):LVR G w L nl (.ltup [.cv c,.cv (.v (.bool b))]) (.tuple #[v,.bool b]):=by
 simp only[LVR]
 refine⟨_,rfl,?_⟩
 simp only[bT]
 exact⟨v,[.bool b],rfl,by simp,by simpa[LVR]using h,.bool b,[],rfl,by simp,by simp[LVR,VR],rfl⟩
theorem oe (R:Rel G L s μ a.tmps w)(hd: ∀d,o.dst=some d→d<a.tmps.size)(hk:KOK L G w s μ a o.dst k r K){ts:List Nat}{v:LV}(hno: ∀cv b,¬aH v cv b)
  (h:k v (ab ts s) μ=some r) (hrun: ∃cv,(execOp a.eval o).run P w= .ok (.value cv) w∧LVR G w L s.lam.length v cv):o.wp P a w K Q:=by
 obtain⟨cv,h1,h2⟩:=hrun
 exact dl R hd hk h h1 h2 (fun b hb=>absurd hb (hno cv b))
theorem Dd {x:Operand}{xt t:TypeId}{ok:Bool}(ho:o.op= .typeAssert x xt t ok)(R:Rel G L s μ a.tmps w)(hd: ∀d,o.dst=some d→d<a.tmps.size)(hk:KOK L G w s μ a o.dst k r K)
  (hop:(jd P (evA h s.fr x) t ok fun v=>k v (ab h.take s) μ)=some r):o.wp P a w K Q:=by
 unfold jd at hop
 split at hop<;>try(simp at hop;done)
 rename_i d hni hu
 split at hop<;>try(simp at hop;done)
 obtain⟨z,hz,hop2⟩:=ac.1 hop
 clear hop
 obtain⟨zv,hzr,hzv⟩:=zO (G:=G) (w:=w) hz
 have hno: ∀c b (cv:Value) bl,¬aH (.ltup [.cv c,.cv (.v (.bool b))]) cv bl:=fun _ _ _ _ h=>by simp[aH]at h
 have hmiss : (Instr.typeAssert (a.eval x) xt t true).run P w = (match a.eval x with
   | .nilIface=> .ok (.tuple #[zv,.bool false]) w
   | .iface u v=>if u=t then .ok (.tuple #[v,.bool true]) w else .ok (.tuple #[zv,.bool false]) w
   |_=>(Instr.typeAssert (a.eval x) xt t true).run P w):=by
  unfold Instr.typeAssert
  cases hx:a.eval x<;>try rfl
  ·rename_i u v
   simp only[Sem.run_bind,run_underlying hu,Result.andThen_ok]
   cases d<;>first
    |(exact absurd hu (hni _))
    |(by_cases hut:u=t<;>simp[hut,hzr])
  ·simp only[Sem.run_bind,run_underlying hu,Result.andThen_ok]
   cases d<;>first
    |(exact absurd hu (hni _))
    |simp[hzr]
 split at hop2
 ·rename_i u c he
  have hv:=co R he
  simp only[VR]at hv
  obtain⟨v,e,hc⟩:=hv
  rw[e]at hmiss
  split at hop2
  ·rename_i hut
   have:=Nat.eq_of_beq_eq_true hut
   subst this
   refine oe R hd hk (hno _ _) hop2 ⟨.tuple #[v,.bool true],?_,vK hc⟩
   simp only[execOp,ho,e]
   refine cB ?_
   rw[hmiss]
   simp
  ·rename_i hut
   refine oe R hd hk (hno _ _) hop2 ⟨.tuple #[zv,.bool false],?_,vK hzv⟩
   simp only[execOp,ho,e]
   refine cB ?_
   rw[hmiss]
   have: ¬u=t:=fun e=>by subst e;simp[Nat.beq_refl]at hut
   simp[this]
 ·rename_i he
  have hv:=co R he
  simp only[VR]at hv
  rw[hv]at hmiss
  refine oe R hd hk (hno _ _) hop2 ⟨.tuple #[zv,.bool false],?_,vK hzv⟩
  simp only[execOp,ho,hv]
  refine cB ?_
  rw[hmiss]
 ·simp at hop2
theorem NI {t:TypeId}(ho:o.op= .makeMap t none)(R:Rel G L s μ a.tmps w)(hd: ∀d,o.dst=some d→d<a.tmps.size)(hk:KOK L G w s μ a o.dst k r K)
  (hop:k (.mloc (ab h.take s).lam.length) {ab h.take s with lam:=(ab h.take s).lam++[.map [] []]} μ=some r):o.wp P a w K Q:=by
 obtain⟨R1,E,_⟩:=cH R h.take
 obtain⟨R2,hle,hT,hv⟩:=R1.newMap
 have E1:Ext L (aB G w s μ a.tmps) G w (G.setL L (ab h.take s).lam.length w.heap.size 0 (ab h.take s).pushed) (w.alloc (.map #[] 0)) (aB (G.setL L (ab h.take s).lam.length w.heap.size 0 (ab h.take s).pushed) (w.alloc (.map #[] 0)) {ab h.take s with lam:=(ab h.take s).lam++[.map [] []]} μ a.tmps):=by
  refine⟨hle,rfl,rfl,rfl,by simp,fun b hb hn=> ?_,fun b hb=> ?_,fun l hl=>Fz l hl⟩
  ·refine⟨heap_alloc_old w _ hb,?_⟩
   have:b≠w.heap.size:=by omega
   simp[Gh.setL,this]
  ·rcases hT b hb with h1|rfl
   ·exact E.grow b h1
   ·exact .inr (Nat.le_refl _)
 obtain⟨R3,E3⟩:=cg (dst:=o.dst) (v:= .mloc (ab h.take s).lam.length) (cv:= .map (some w.heap.size)) R2 E1 hv (fun b hb=>by simp[aH]at hb) hd
 refine cm ?_ (hk _ _ μ _ _ _ hop R3 E3)
 simp only[execOp,ho]
 refine cB ?_
 simp[Instr.makeMap]
theorem yN {t:TypeId}{q:TypeDesc×TypeId}(h:Cb P t=some q): ∃kt,P.underlying t=some (.map kt q.2)∧P.underlying kt=some q.1:=by
 unfold Cb at h
 split at h<;>try(simp at h;done)
 rename_i kt e hu
 obtain⟨d,hd,h⟩:=ac.1 h
 simp only[Option.some.injEq]at h
 subst h
 exact⟨kt,hu,hd⟩
theorem Ba {d:TypeDesc}{x:LV}{kv:Value}{nl:Nat}{v:Value}(h:Ld d x=some kv)(hv:LVR G w L nl x v):v=kv∧IsKey d kv:=by
 unfold Ld at h
 split at h<;>try(simp at h;done)
 ·obtain⟨n,h1,h2⟩:=ac.1 h
  simp only[Option.some.injEq]at h2
  subst h2
  rw[iP h1]at hv
  simp only[LVR,VR]at hv
  exact⟨hv,rfl⟩
 ·obtain⟨n,h1,h2⟩:=ac.1 h
  simp only[Option.some.injEq]at h2
  subst h2
  rw[fX h1]at hv
  simp only[LVR,VR]at hv
  exact⟨hv,trivial⟩
 ·obtain⟨n,h1,h2⟩:=ac.1 h
  simp only[Option.some.injEq]at h2
  subst h2
  rw[fW h1]at hv
  simp only[LVR,VR]at hv
  exact⟨hv,trivial⟩
theorem Dc {t:TypeId}{m x y:Operand}(ho:o.op= .insert t m x y∨o.op= .mapUpdate t m x y)(R:Rel G L s μ a.tmps w)(hd: ∀d,o.dst=some d→d<a.tmps.size)(hk:KOK L G w s μ a o.dst k r K)
  (hop:iy P t (evA h s.fr m) (evA h s.fr x) (evA h s.fr y) (ab h.take s) μ k=some r):o.wp P a w K Q:=by
 obtain⟨R1,E1,hO⟩:=cH R h.take
 have hl:=aQ h.take s
 have hexec: ∀{w':World},(Instr.mapUpdate t (a.eval m) (a.eval x) (a.eval y)).run P w= .ok () w'→(execOp a.eval o).run P w= .ok .skip w':=by
  intro w' hw
  rcases ho with ho|ho<;>(simp only[execOp,ho];exact Mx hw)
 unfold iy at hop
 obtain⟨q,hq,hop⟩:=ac.1 hop
 obtain⟨kt,hu,hkd⟩:=yN hq
 obtain⟨kv,hkv,hop⟩:=ac.1 hop
 obtain⟨hkx,hkk⟩:=Ba hkv (aX R h x).1
 obtain⟨c,hc,hop⟩:=ac.1 hop
 have hcv:=ew hc (aX R h y).1
 split at hop
 ·rename_i i he
  have hm:=(aX R h m).1
  rw[he]at hm
  simp only[LVR]at hm
  split at hop<;>try(simp at hop;done)
  rename_i ks vs hob
  obtain⟨hg,hop⟩:=aF.1 hop
  rw[hl.1]at hob
  have hobr:=R.lam i
  rw[hob]at hobr
  simp only[ObR]at hobr
  obtain⟨es,clk,hb,hO0,hM⟩:=hobr
  obtain⟨es',clk',hrun,hkeys,hvals⟩:=Ke (P:=P) (c:=c) (v:=a.eval y) hu hkd hb hkk hM (lW hg)
  have hob2:aE (μ++[(ab h.take s).lam]) L i= .map ks vs:=by rw[hl.1,←R.lev];exact br.trans hob
  obtain⟨R2,E2⟩:=R1.setMap (s1:={ab h.take s with lam:=(ab h.take s).lam.set i (.map (lB ks kv) (lC ks vs kv c))}) (μ1:=μ) hob2 hb rfl rfl (by simp) rfl (by rw[←R.lev];exact o2.symm) (es':=es') (clk':=clk')
   (fun w' hle=>⟨fun _=>⟨hkeys,hvals G w' (hJ hle vs _ hM.2) (bi hle c _ hcv)⟩,fun e=>by omega⟩)
  obtain⟨R3,E3⟩:=cg (dst:=o.dst) (v:= .cv .undef) (cv:=undef) R2 (E1.trans E2) (by simp[LVR,VR]) (fun b hb=>by simp[aH]at hb) hd
  refine ni (hexec ?_) (hk _ _ _ _ _ G hop R3 E3)
  rw[hm.2,hkx]
  exact hrun
 ·rename_i lev i he
  have hm:=co R he
  simp only[VR]at hm
  split at hop<;>try(simp at hop;done)
  rename_i ks vs hob
  obtain⟨hg,hop⟩:=aF.1 hop
  simp only[Bool.and_eq_true]at hg
  have hlt:lev<μ.length:=by
   by_cases hq:lev<μ.length
   ·exact hq
   ·simp only[aU]at hob
    rw[List.getElem?_eq_none (by omega)]at hob
    simp at hob
  have hobr:=R.mu lev i (by rw[←R.lev];exact hlt)
  rw[hob]at hobr
  simp only[ObR]at hobr
  obtain⟨es,clk,hb,hO0,hM⟩:=hobr
  obtain⟨es',clk',hrun,hkeys,hvals⟩:=Ke (P:=P) (c:=c) (v:=a.eval y) hu hkd hb hkk hM (lW hg.1)
  have hob2:aE (μ++[(ab h.take s).lam]) lev i= .map ks vs:=(ba hlt).trans hob
  obtain⟨R2,E2⟩:=R1.setMap (s1:=ab h.take s) (μ1:=bj μ lev i (.map (lB ks kv) (lC ks vs kv c))) hob2 hb rfl rfl rfl iW.1 (mC hlt).symm (es':=es') (clk':=clk')
   (fun w' hle=>⟨fun e=>by rw[R.lev]at hlt;omega,fun _=>⟨hkeys,hvals _ w' (hJ (hle.below lev) vs _ hM.2) (bi (hle.below lev) c _ (CU c _ hg.2 hcv))⟩⟩)
  obtain⟨R3,E3⟩:=cg (dst:=o.dst) (v:= .cv .undef) (cv:=undef) R2 (E1.trans E2) (by simp[LVR,VR]) (fun b hb=>by simp[aH]at hb) hd
  refine ni (hexec ?_) (hk _ _ _ _ _ G hop R3 E3)
  rw[hm.2,hkx]
  exact hrun
 ·simp at hop
theorem Lt {x:LV}{q:List Value×List CV}{cv:Value}(R:Rel G L s μ a.tmps w)(h:vA x s μ=some q)(hv:LVR G w L s.lam.length x cv):
  (q=([],[])∧cv= .map none)∨ ∃r es clk,cv= .map (some r)∧w.heap[r]? =some (.map es clk)∧sF G w q.1 q.2 es:=by
 unfold vA at h
 split at h
 ·simp only[Option.some.injEq]at h
  subst h
  simp only[LVR,VR]at hv
  obtain⟨r,es,clk,h1,h2,h3,h4,h5⟩:=hv
  exact .inr ⟨r,es,clk,h1,h2,h4,h5⟩
 ·simp only[Option.some.injEq]at h
  subst h
  simp only[LVR,VR]at hv
  exact .inl ⟨rfl,hv⟩
 ·rename_i i
  split at h<;>try(simp at h;done)
  rename_i ks vs hob
  simp only[Option.some.injEq]at h
  subst h
  simp only[LVR]at hv
  have hobr:=R.lam i
  rw[hob]at hobr
  simp only[ObR]at hobr
  obtain⟨es,clk,hb,_,hM⟩:=hobr
  exact .inr ⟨_,es,clk,hv.2,hb,hM⟩
 ·rename_i lev i
  split at h<;>try(simp at h;done)
  rename_i ks vs hob
  simp only[Option.some.injEq]at h
  subst h
  simp only[LVR,VR]at hv
  have hlt:lev<μ.length:=by
   by_cases hq:lev<μ.length
   ·exact hq
   ·simp only[aU]at hob
    rw[List.getElem?_eq_none (by omega)]at hob
    simp at hob
  have hobr:=R.mu lev i (by rw[←R.lev];exact hlt)
  rw[hob]at hobr
  simp only[ObR]at hobr
  obtain⟨es,clk,hb,_,hM⟩:=hobr
  exact .inr ⟨_,es,clk,hv.2,hb,me (nw G w lev) hM⟩
 ·simp at h
theorem QO {t:TypeId}{m x:Operand}{ok:Bool}(ho:o.op= .lookup t m x ok)(R:Rel G L s μ a.tmps w)(hd: ∀d,o.dst=some d→d<a.tmps.size)(hk:KOK L G w s μ a o.dst k r K)
  (hop:(jj P t (evA h s.fr m) (evA h s.fr x) ok (ab h.take s) μ fun v=>k v (ab h.take s) μ)=some r):o.wp P a w K Q:=by
 obtain⟨R1,E1,hO⟩:=cH R h.take
 have hl:=aQ h.take s
 unfold jj at hop
 obtain⟨q,hq,hop⟩:=ac.1 hop
 obtain⟨kt,hu,hkd⟩:=yN hq
 obtain⟨kv,hkv,hop⟩:=ac.1 hop
 obtain⟨hkx,hkk⟩:=Ba hkv (aX R h x).1
 obtain⟨pq,hpq,hop⟩:=ac.1 hop
 obtain⟨hg,hop⟩:=aF.1 hop
 have hmv:LVR G w L (ab h.take s).lam.length (evA h s.fr m) (a.eval m):=by rw[hl.1];exact(aX R h m).1
 have hmo:=Lt R1 hpq hmv
 have fin: ∀(c:CV) (v:Value) (b:Bool),VR G w c v→(Instr.lookup t (a.eval m) (a.eval x) ok).run P w= .ok (if ok then .tuple #[v,.bool b]else v) w→
   (ok=true→k (.ltup [.cv c,.cv (.v (.bool b))]) (ab h.take s) μ=some r)→(ok=false→k (.cv c) (ab h.take s) μ=some r)→o.wp P a w K Q:=by
  intro c v b hc hrun hT hF
  cases ok with
  |true=>
   refine oe R hd hk (fun cv bl hh=>by simp[aH]at hh) (hT rfl) ⟨.tuple #[v,.bool b],?_,vK hc⟩
   simp only[execOp,ho]
   exact cB (by simpa using hrun)
  |false=>
   refine oe R hd hk (fun cv bl hh=>by simp[aH]at hh) (hF rfl) ⟨v,?_,by simpa[LVR]using hc⟩
   simp only[execOp,ho]
   exact cB (by simpa using hrun)
 have runs: ∀(es:Array MapEntry),(a.eval m= .map none∧es= #[]∨ ∃r clk,a.eval m= .map (some r)∧w.heap[r]? =some (.map es clk))→sF G w pq.1 pq.2 es→o.wp P a w K Q:=by
  intro es hes hM
  obtain⟨f1,f2⟩:=DQ (G:=G) (w:=w) hkk (i:=0) hM.1 hM.2 (lW hg)
  have hnone:Instr.findNow q.1 kv es.toList 0=some none→ ∀v,(zeroValue q.2).run P w= .ok v w→(Instr.lookup t (a.eval m) (a.eval x) ok).run P w= .ok (if ok then .tuple #[v,.bool false]else v) w:=by
   intro hf v hz
   rcases hes with⟨e1,rfl⟩|⟨r,clk,e1,hb⟩
   ·simp[Instr.lookup,run_underlying hu,e1,hkx,MapKept.run_checkKey hkd hkk,MapKept.run_findKey hkd hf,hz]
   ·simp[Instr.lookup,run_underlying hu,e1,hkx,MapKept.run_getObj_map hb,MapKept.run_checkKey hkd hkk,MapKept.run_findKey hkd hf,hz]
  have hsome: ∀j v,Instr.findNow q.1 kv es.toList 0=some (some (j,v))→(Instr.lookup t (a.eval m) (a.eval x) ok).run P w= .ok (if ok then .tuple #[v,.bool true]else v) w:=by
   intro j v hf
   rcases hes with⟨e1,rfl⟩|⟨r,clk,e1,hb⟩
   ·simp[Instr.lookup,run_underlying hu,e1,hkx,MapKept.run_checkKey hkd hkk,MapKept.run_findKey hkd hf]
   ·simp[Instr.lookup,run_underlying hu,e1,hkx,MapKept.run_getObj_map hb,MapKept.run_checkKey hkd hkk,MapKept.run_findKey hkd hf]
  unfold optE at hop
  cases hfd:gQ pq.1 pq.2 kv with
  |none=>
   rw[hfd]at hop
   obtain⟨z,hz,hop⟩:=ac.1 hop
   obtain⟨zv,hzr,hzv⟩:=zO (G:=G) (w:=w) hz
   exact fin z zv false hzv (hnone (f1 hfd) zv hzr) (fun e=>by subst e;exact hop) (fun e=>by subst e;exact hop)
  |some c=>
   rw[hfd]at hop
   obtain⟨j,v,hf,hcv⟩:=f2 c hfd
   unfold eZ at hop
   obtain⟨c',hc',hcr⟩:=oq hop
   exact fin c' v true (hcr G w L 0 v (by simpa[LVR]using hcv)) (hsome j v hf) (fun e=>by subst e;exact hc') (fun e=>by subst e;exact hc')
 rcases hmo with⟨e1,e2⟩|⟨r,es,clk,e1,hb,hM⟩
 ·exact runs #[] (.inl ⟨e2,rfl⟩) (by rw[e1];exact⟨rfl,by simp[VRL]⟩)
 ·exact runs es (.inr ⟨r,clk,e1,hb⟩) hM
end
end Go.Abs
set_option linter.unusedVariables false
set_option linter.unusedSimpArgs false
namespace Go.Abs
open Go
section
variable {P:Program}{W0:World}{ρ:Rho}{α:Type}{L:Nat}{G:Gh}{w:World}{s:S}{μ:Mu}{a:Act}{o:Oper}{h:OpHint}{k:LV→S→Mu→Option α}{p:CV→S→Mu→Option α}{r:α}{K:Act→World→Prop}{Q:Exit→Act→World→Prop}
def d7 (P:Program)(W0:World)(ρ:Rho):Prop:= ∀f args μ out,ρ.call f args μ=some out→cR P W0 f args μ out
theorem Fu {c:Call}{fx:Operand}{f:FuncId}{vs:Array Value}(ho:o.op= .call c)(hc:c.callee= .value fx)(he:a.eval fx= .func (.func f) #[] vs)
  (hfn: ∃fn cd,P.funcs[f]? =some fn∧fn.body=some cd∧(fn.name == "runtime.NumGoroutine")=false):
  (execOp a.eval o).run P w= .ok (.enter f (c.args.toList.map a.eval++vs.toList).toArray) w:=by
 obtain⟨fn,cd,h1,h2,h3⟩:=hfn
 have e:(c.args.toList.map a.eval++vs.toList).toArray=c.args.map a.eval++vs:=by
  apply Array.ext'
  simp
 rw[e]
 simp only[execOp,ho,resolve,hc,he,Deferred.ofValue,Sem.run_bind,Sem.run_pure,Result.andThen_ok,invoke,callFunc,run_program,h1,h3,h2,Option.isNone_some,Bool.false_eq_true,if_false,Array.empty_append]
theorem NF {c:Call}{fx:Operand}(ho:o.op= .call c)(hc:c.callee= .value fx)(R:Rel G L s μ a.tmps w)(hd: ∀d,o.dst=some d→d<a.tmps.size)(hk:KOK L G w s μ a o.dst k r K)(hpk:POK L G w s μ a p r Q)
  (hrho:d7 P W0 ρ) (hkn:Kn W0 w (aB G w s μ a.tmps)) {f:FuncId} {caps:List LV} (hdis:fV c.args.toList=true) {vs:Array Value} (he:a.eval fx= .func (.func f) #[] vs) (hcaps:bT G w L s.lam.length caps vs.toList)
  (hop:d6 P ρ h o.type f (c.args.toList.map (evA h s.fr)++caps) (ab h.take s) μ k p=some r):o.wp P a w K Q:=by
 have A:=QH R (h:=h) hdis hcaps
 have hl:=aQ h.take s
 unfold d6 at hop
 split at hop
 ·obtain⟨hg,hop2⟩:=aF.1 hop
  simp only[Bool.and_eq_true,Bool.not_eq_true']at hg
  rw[hl.2]at hg
  exact QN R hd hk hpk hrho hkn hg.1 hg.2 A (Fu ho hc he) hop2
 ·obtain⟨args',ha,hop2⟩:=ac.1 hop
  obtain⟨l,hlm,hop3⟩:=ac.1 hop2
  rw[hl.1]at hlm
  exact QM R hd hk hpk hrho hkn A ha hlm (Fu ho hc he) hop3
theorem zi (R:Rel G L s μ a.tmps w)(hd: ∀d,o.dst=some d→d<a.tmps.size)(hk:KOK L G w s μ a o.dst k r K)(hpk:POK L G w s μ a p r Q)(hrho:d7 P W0 ρ)(hkn:Kn W0 w (aB G w s μ a.tmps))
  (hop:ck P ρ h o s μ k p=some r):o.wp P a w K Q:=by
 unfold ck at hop
 dsimp only at hop
 split at hop
 ·exact NJ (.inl (by assumption)) R hd hk hop
 ·exact NJ (.inr (by assumption)) R hd hk hop
 ·exact U7 (by assumption) R hd hk hop
 ·exact Ty (by assumption) R hd hk hop
 ·split at hop
  ·exact WC (by assumption) R hd hk hop
  ·exact U4 (by assumption) R hd hk hop
 ·exact TA (by assumption) R hd hk hop
 ·split at hop<;>try(simp at hop;done)
  obtain⟨sz,h1,hop2⟩:=ac.1 hop
  obtain⟨h2,hop3⟩:=aF.1 hop2
  obtain⟨zc,h3,hop4⟩:=ac.1 hop3
  rw[nq]at hop4
  obtain⟨xs,h5',hop6⟩:=ac.1 hop4
  obtain⟨ps,h4,h5⟩:=D7 h5'
  obtain⟨h6,hop7⟩:=aF.1 hop6
  obtain⟨h7,hop8⟩:=aF.1 hop7
  clear hop hop2 hop3 hop4 hop6 hop7
  rw[Bool.and_eq_true]at h7
  exact Db (by assumption) R hd hk (by assumption) h1 h2 h3 h4 h5 (Nat.eq_of_beq_eq_true h6) (Nat.le_of_ble_eq_true h7.2) h7.1 hop8
 ·exact U6 (by assumption) R hd hk hop
 ·exact TF (by assumption) R hd hk hop
 ·exact KW (by assumption) R hd hk hop
 ·exact Tz (by assumption) R hd hk hop
 ·exact U8 (by assumption) R hd hk hop
 ·refine NG (by assumption) R hd hk hop fun e l h1 h2 h3 h4 h5 h6=>KX (by assumption) R hd hk h1 h2 h3 h4 h5 h6
 ·split at hop<;>try(simp at hop;done)
  rename_i hni hu
  exact yn (by assumption) hu (fun ms e=>hni ms (by first|exact e|rw[hu,e])) R hd hk hop
 ·split at hop<;>try(simp at hop;done)
  split at hop<;>try(simp at hop;done)
  exact KV (by assumption) (by assumption) R hd hk hop
 ·split at hop<;>try(simp at hop;done)
  exact TE (by assumption) R hd hk hop
 ·exact FX (by assumption) R hd hk hop
 ·exact TB (by assumption) R hd hk hop
 ·exact FY (by assumption) R hd hk hop
 ·exact TC (by assumption) R hd hk hop
 ·exact NH (by assumption) R hd hk hop
 ·split at hop<;>try(simp at hop;done)
  exact TD (by assumption) R hpk (by assumption) hop
 ·exact Dd (by assumption) R hd hk hop
 ·split at hop<;>try(simp at hop;done)
  exact NI (by assumption) R hd hk hop
 ·split at hop<;>try(simp at hop;done)
  exact FZ (by assumption) (by assumption) R hd hk hop
 ·exact Dc (.inl (by assumption)) R hd hk hop
 ·exact Dc (.inr (by assumption)) R hd hk hop
 ·exact QO (by assumption) R hd hk hop
 ·split at hop
  ·split at hop
   ·split at hop<;>try(simp at hop;done)
    exact WD (by assumption) (by assumption) (by assumption) (by assumption) R hd hk hop
   ·split at hop<;>try(simp at hop;done)
    rename_i c hc hb x y t xt hx ht
    exact QL (ts:=[xt]) (by assumption) (by assumption) hx ht R hd hk (by simp) hop
   ·split at hop<;>try(simp at hop;done)
    exact U5 (by assumption) (by assumption) (by assumption) (by assumption) R hd hk hop
   ·split at hop<;>try(simp at hop;done)
    exact WE (by assumption) (by assumption) (by assumption) R hd hk hop
   ·split at hop<;>try(simp at hop;done)
    exact WF (by assumption) (by assumption) (by assumption) R hd hk hop
   ·simp at hop
  ·obtain⟨hdis,hop2⟩:=aF.1 hop
   clear hop
   split at hop2
   ·rename_i f caps he
    have hv:=co R he
    simp only[VR]at hv
    obtain⟨vs,e,hl⟩:=hv
    refine NF (by assumption) (by assumption) R hd hk hpk hrho hkn hdis e ?_ hop2
    generalize vs.toList=vl at hl
    clear hop2 he e
    induction caps generalizing vl with
    |nil=>simpa[bT,VRL]using hl
    |cons c caps ih=>
     simp only[VRL]at hl
     obtain⟨v,r,rfl,h1,h2⟩:=hl
     simp only[List.map_cons,bT]
     exact⟨v,r,rfl,by simp,by simpa[LVR]using h1,ih r h2⟩
   ·rename_i f caps he
    have hv:=fun x (e:evA h s.fr x= .lclo f caps)=>e▸(aX R h x).1
    replace hv:=hv _ he
    simp only[LVR]at hv
    obtain⟨vs,e,hl⟩:=hv
    exact NF (by assumption) (by assumption) R hd hk hpk hrho hkn hdis e hl hop2
   ·simp at hop2
  ·simp at hop
 ·simp at hop
structure SetOb (s:S) (μ:Mu) (s':S) (μ':Mu) (lv ix:Nat) (o:Ob):Prop where
 fr:s'.fr=s.fr
 pushed:s'.pushed=s.pushed
 len:s'.lam.length=s.lam.length
 mlen:μ'.length=μ.length
 glen: ∀l,(μ'.getD l []).length=(μ.getD l []).length
 at_: ∀l j,aE (μ'++[s'.lam]) l j=if l=lv∧j=ix then o else aE (μ++[s.lam]) l j
theorem T6 {μ:Mu}{lev i:Nat}(h:aK (aU μ lev i)):lev<μ.length∧i<(μ.getD lev []).length:=by
 unfold aU at h
 split at h
 ·rename_i l hl
  split at h
  ·rename_i x hx
   obtain⟨h1,e⟩:=List.getElem?_eq_some_iff.1 hl
   obtain⟨h2,_⟩:=List.getElem?_eq_some_iff.1 hx
   exact⟨h1,by rw[List.getD_eq_getElem?_getD,hl];exact h2⟩
  ·exact h.elim
 ·exact h.elim
theorem BA {s:S}{μ:Mu}{i:Nat}{o:Ob}(hi:i<s.lam.length):SetOb s μ {s with lam:=s.lam.set i o} μ μ.length i o:=by
 refine⟨rfl,rfl,by simp,rfl,fun _=>rfl,fun l j=> ?_⟩
 rcases Nat.lt_trichotomy l μ.length with h|h|h
 ·rw[aE,aE,ba h,ba h,if_neg (by omega)]
 ·subst h
  rw[aE,aE,br,br,mz hi]
  simp
 ·rw[aE,aE,jl h,jl h,if_neg (by omega)]
theorem Bz {s:S}{μ:Mu}{lv i:Nat}{o:Ob}(hl:lv<μ.length)(hi:i<(μ.getD lv []).length):SetOb s μ s (bj μ lv i o) lv i o:=by
 have e:μ[lv]? =some (μ.getD lv []):=by
  rw[List.getD_eq_getElem?_getD,List.getElem?_eq_getElem hl];rfl
 have em:bj μ lv i o=μ.set lv ((μ.getD lv []).set i o):=by rw[bj,e]
 refine⟨rfl,rfl,rfl,by rw[em];simp,fun l=> ?_,fun l j=> ?_⟩
 ·rw[em]
  by_cases hh:l=lv
  ·subst hh
   simp only[List.getD_eq_getElem?_getD,List.getElem?_set_self hl]
   simp[List.getD_eq_getElem?_getD]
  ·simp only[List.getD_eq_getElem?_getD,List.getElem?_set_ne (Ne.symm hh)]
 ·have hlen:(bj μ lv i o).length=μ.length:=by rw[em];simp
  rcases Nat.lt_trichotomy l μ.length with h|h|h
  ·rw[aE,aE,ba (by rw[hlen];exact h),ba h,em,aU,aU]
   by_cases hh:l=lv
   ·subst hh
    rw[List.getElem?_set_self hl,e]
    dsimp only
    by_cases hj:j=i
    ·subst hj;rw[List.getElem?_set_self hi];simp
    ·rw[List.getElem?_set_ne (Ne.symm hj),if_neg (by simp[hj])]
   ·rw[List.getElem?_set_ne (Ne.symm hh),if_neg (by simp[hh])]
  ·subst h
   rw[if_neg (by omega)]
   rw[←hlen,aE,br,hlen,aE,br]
  ·rw[aE,aE,jl (by rw[hlen];exact h),jl h,if_neg (by omega)]
section
variable {tm tm2:Array Value}{lv ix:Nat}{ob:Ob}{sh s2 sv:S}{μh μ2 μv:Mu}{G2:Gh}{w2:World}
theorem Rel.drop (R:Rel G L s μ tm w)(H:SetOb s μ sh μh lv ix .dead):
  Rel G L sh μh tm w∧(∀l b,ay G w sh.fr tm (μh++[sh.lam]) l b→ay G w s.fr tm (μ++[s.lam]) l b∧ ∀k,l≠ .ob lv ix k)∧
  (∀l j,aK (aE (μh++[sh.lam]) l j)→aK (aE (μ++[s.lam]) l j)∧ ¬(l=lv∧j=ix)):=by
 have hlive: ∀l j,aK (aE (μh++[sh.lam]) l j)→aK (aE (μ++[s.lam]) l j)∧ ¬(l=lv∧j=ix):=by
  intro l j h
  rw[H.at_]at h
  split at h
  ·exact h.elim
  ·exact⟨h,by assumption⟩
 have hown: ∀l b,ay G w sh.fr tm (μh++[sh.lam]) l b→ay G w s.fr tm (μ++[s.lam]) l b∧ ∀k,l≠ .ob lv ix k:=by
  intro l b h
  cases l with
  |fr t=>exact⟨by rw[H.fr]at h;exact h,fun k e=>by cases e⟩
  |ob l j k=>
   obtain⟨_,h2⟩:=hlive l j (fo h)
   refine⟨fp (fr':=sh.fr) (tm':=tm) (by rw[H.at_,if_neg h2]) rfl rfl h,fun k' e=> ?_⟩
   injection e with e1 e2
   exact h2 ⟨e1,e2⟩
 have hμ:=R.lev
 have hμh:μh.length=L:=by rw[H.mlen,hμ]
 refine ⟨⟨hμh, fun t => by rw [H.fr, H.len]; exact R.fr t, fun i => ?_, fun lev i hlt => ?_, fun lev i lev' i' h h' e => R.inj lev i lev' i' (hlive lev i h).1 (hlive lev' i' h').1 e,
  fun l l' b h h'=>R.own l l' b (hown l b h).1 (hown l' b h').1,fun l b lev i h h' e=>R.apart l b lev i (hown l b h).1 (hlive lev i h').1 e,fun lev hlt=>by rw[H.glen];exact R.nlt lev hlt,
  by rw[H.pushed,H.len];exact R.nL,R.ngt⟩,hown,hlive⟩
 ·have e1:aG sh.lam i=aE (μh++[sh.lam]) L i:=by rw[←hμh];exact br.symm
  have e2:aG s.lam i=aE (μ++[s.lam]) L i:=by rw[←hμ];exact br.symm
  rw[H.len,e1,H.at_]
  split
  ·trivial
  ·rw[←e2];exact R.lam i
 ·have e1:aU μh lev i=aE (μh++[sh.lam]) lev i:=(ba (by omega)).symm
  have e2:aU μ lev i=aE (μ++[s.lam]) lev i:=(ba (by omega)).symm
  rw[e1,H.at_]
  split
  ·trivial
  ·rw[←e2];exact R.mu lev i hlt
theorem Rel.undrop (R:Rel G L s μ tm w)(H:SetOb s μ sh μh lv ix .dead)(hob:aE (μ++[s.lam]) lv ix=ob)(hlv:aK ob)(hpu:lv=L→s.pushed=true)(hle:lv≤L)
  (R2:Rel G2 L s2 μ2 tm2 w2) (E:Ext L (aB G w sh μh tm) G w G2 w2 (aB G2 w2 s2 μ2 tm2)) (hd:aE (μ2++[s2.lam]) lv ix= .dead) (V:SetOb s2 μ2 sv μv lv ix ob):
  Rel G2 L sv μv tm2 w2∧Ext L (aB G w s μ tm) G w G2 w2 (aB G2 w2 sv μv tm2):=by
 obtain⟨Rh,hown,hlive⟩:=R.drop H
 have hμ:=R.lev
 have hμ2:=R2.lev
 have hμv:μv.length=L:=by rw[V.mlen,hμ2]
 have hl0:aK (aE (μ++[s.lam]) lv ix):=by rw[hob];exact hlv
 have hβ:G2.β lv ix=G.β lv ix∧G2.sz lv ix=G.sz lv ix:=by
  rcases Nat.lt_or_ge lv L with h|h
  ·exact(E.lev lv h).1 ix
  ·have:lv=L:=by omega
   subst this
   have hi:ix<s.lam.length:=by
    rw[←hμ]at hl0
    rw[aE,br]at hl0
    exact ia hl0
   exact(E.le.ref lv ix (by rw[R.nL,hpu rfl];simpa using hi)).2
 have hblk:G.β lv ix<w.heap.size∧ ¬aB G w sh μh tm (G.β lv ix):=by
  refine⟨R.touch_lt (.inr ⟨lv,ix,hl0,rfl⟩),?_⟩
  rintro(⟨l,hb⟩|⟨lev,i,hb,e⟩)
  ·exact R.apart l _ lv ix (hown l _ hb).1 hl0 rfl
  ·obtain⟨h1,h2⟩:=hlive lev i hb
   exact h2 (R.inj lev i lv ix h1 hl0 e)
 have hkeep:=E.keep _ hblk.1 hblk.2
 have howned: ∀k b,ay G w s.fr tm (μ++[s.lam]) (.ob lv ix k) b→b<w.heap.size∧ ¬aB G w sh μh tm b:=by
  intro k b h
  refine⟨R.touch_lt (.inl ⟨_,h⟩),?_⟩
  rintro(⟨l,hb⟩|⟨lev,i,hb,e⟩)
  ·exact(hown l b hb).2 k (R.own l _ b (hown l b hb).1 h)
  ·exact R.apart _ b lev i h (hlive lev i hb).1 e
 have hownV: ∀l b,ay G2 w2 sv.fr tm2 (μv++[sv.lam]) l b→(b<w.heap.size∧ ¬aB G w sh μh tm b∧(∃k,l= .ob lv ix k)∧ay G w s.fr tm (μ++[s.lam]) l b)∨ay G2 w2 s2.fr tm2 (μ2++[s2.lam]) l b:=by
  intro l b h
  cases l with
  |fr t=>exact .inr (by rw[V.fr]at h;exact h)
  |ob l j k=>
   by_cases hlj:l=lv∧j=ix
   ·obtain⟨rfl,rfl⟩:=hlj
    have h3:ay G w s.fr tm (μ++[s.lam]) (.ob l j k) b:=fp (fr':=sv.fr) (tm':=tm2) (by rw[V.at_,hob];simp) hβ.1 hkeep.1 h
    exact .inl ⟨(howned k b h3).1,(howned k b h3).2,⟨k,rfl⟩,h3⟩
   ·exact .inr (fp (fr':=sv.fr) (tm':=tm2) (by rw[V.at_,if_neg hlj]) rfl rfl h)
 have hliveV: ∀l j,aK (aE (μv++[sv.lam]) l j)→(l=lv∧j=ix)∨aK (aE (μ2++[s2.lam]) l j):=by
  intro l j h
  rw[V.at_]at h
  split at h
  ·exact .inl (by assumption)
  ·exact .inr h
 have hgrow:=E.grow
 refine ⟨⟨hμv, fun t => by rw [V.fr, V.len]; exact R2.fr t, fun i => ?_, fun lev i hlt => ?_, fun lev i lev' i' h h' e => ?_, fun l l' b h h' => ?_, fun l b lev i h h' e => ?_, fun lev hlt => by rw [V.glen]; exact R2.nlt lev hlt,
  by rw[V.pushed,V.len];exact R2.nL,R2.ngt⟩,E.le,E.os,E.tape,E.output,E.size,fun b hb hn=>E.keep b hb fun ht=>hn ?_,fun b hb=> ?_,E.lev⟩
 ·have e1:aG sv.lam i=aE (μv++[sv.lam]) L i:=by rw[←hμv];exact br.symm
  have e2:aG s2.lam i=aE (μ2++[s2.lam]) L i:=by rw[←hμ2];exact br.symm
  rw[V.len,e1,V.at_]
  split
  ·rename_i hh
   obtain⟨rfl,rfl⟩:=hh
   have e3:aG s.lam i=ob:=by rw[←hob,←hμ];exact br.symm
   have hr:=R.lam i
   rw[e3]at hr
   have hnl: ∀j,j<s.lam.length→j<s2.lam.length∧G2.β L j=G.β L j∧G2.sz L j=G.sz L j:=by
    intro j hj
    obtain⟨a1,a2⟩:=E.le.ref L j (by rw[R.nL,hpu rfl];simpa using hj)
    have:=R2.nL
    refine⟨?_,a2⟩
    split at this<;>omega
   rw[hβ.1,hβ.2]
   refine ci E.le ?_ (fun j hj=>(hnl j hj).2) (fun _=>hkeep) (fun cs j x cur e fz ho hx hb b' hb'=> ?_) hr
   ·rcases Nat.lt_or_ge s2.lam.length s.lam.length with h|h
    ·have:=(hnl _ h).1;omega
    ·exact h
   ·have h3:ay G w s.fr tm (μ++[s.lam]) (.ob L i j) b':=by
     simp only[ay,hob,ho,hx]
     exact⟨cur,e,fz,hb,hb'⟩
    exact E.keep b' (howned j b' h3).1 (howned j b' h3).2
  ·rw[←e2];exact R2.lam i
 ·have e1:aU μv lev i=aE (μv++[sv.lam]) lev i:=(ba (by omega)).symm
  have e2:aU μ2 lev i=aE (μ2++[s2.lam]) lev i:=(ba (by omega)).symm
  rw[e1,V.at_]
  split
  ·rename_i hh
   obtain⟨rfl,rfl⟩:=hh
   have e3:aU μ lev i=ob:=by rw[←hob];exact(ba (by omega)).symm
   have hr:=R.mu lev i hlt
   rw[e3]at hr
   rw[hβ.1,hβ.2]
   refine ci (E.le.below lev) (Nat.le_refl _) (fun j hj=>by omega) (fun _=>hkeep) (fun cs j x cur e fz ho hx hb b' hb'=> ?_) hr
   have h3:ay G w s.fr tm (μ++[s.lam]) (.ob lev i j) b':=by
    simp only[ay,hob,ho,hx]
    exact⟨cur,e,fz,hb,hb'⟩
   exact E.keep b' (howned j b' h3).1 (howned j b' h3).2
  ·rw[←e2];exact R2.mu lev i hlt
 ·rcases hliveV lev i h with⟨rfl,rfl⟩|h1<;>rcases hliveV lev' i' h' with⟨rfl,rfl⟩|h1'
  ·exact⟨rfl,rfl⟩
  ·exfalso
   rw[hβ.1]at e
   rcases hgrow _ (.inr ⟨lev',i',h1',e.symm⟩)with hh|hh
   ·exact hblk.2 hh
   ·omega
  ·exfalso
   rw[hβ.1]at e
   rcases hgrow _ (.inr ⟨lev,i,h1,e⟩)with hh|hh
   ·exact hblk.2 hh
   ·omega
  ·exact R2.inj lev i lev' i' h1 h1' e
 ·rcases hownV l b h with⟨h1,h2,_,h3⟩|h3<;>rcases hownV l' b h' with⟨h1',h2',_,h3'⟩|h3'
  ·exact R.own l l' b h3 h3'
  ·exfalso
   rcases hgrow b (.inl ⟨_,h3'⟩)with hh|hh
   ·exact h2 hh
   ·omega
  ·exfalso
   rcases hgrow b (.inl ⟨_,h3⟩)with hh|hh
   ·exact h2' hh
   ·omega
  ·exact R2.own l l' b h3 h3'
 ·rcases hownV l b h with⟨h1,h2,_,h3⟩|h3<;>rcases hliveV lev i h' with⟨rfl,rfl⟩|h3'
  ·rw[hβ.1]at e
   exact R.apart l b _ _ h3 hl0 e
  ·rcases hgrow b (.inr ⟨lev,i,h3',e⟩)with hh|hh
   ·exact h2 hh
   ·omega
  ·rw[hβ.1]at e
   subst e
   rcases hgrow _ (.inl ⟨_,h3⟩)with hh|hh
   ·exact hblk.2 hh
   ·omega
  ·exact R2.apart _ b lev i h3 h3' e
 ·rcases ht with⟨l,hb2⟩|⟨lev,i,hb2,rfl⟩
  ·exact .inl ⟨l,(hown l _ hb2).1⟩
  ·exact .inr ⟨lev,i,(hlive lev i hb2).1,rfl⟩
 ·have hTT: ∀b,aB G w sh μh tm b→aB G w s μ tm b:=by
   rintro b (⟨l,hb⟩|⟨lev,i,hb,rfl⟩)
   ·exact .inl ⟨l,(hown l _ hb).1⟩
   ·exact .inr ⟨lev,i,(hlive lev i hb).1,rfl⟩
  rcases hb with⟨l,hb⟩|⟨lev,i,hb,rfl⟩
  ·rcases hownV l b hb with⟨_,_,_,h3⟩|h3
   ·exact .inl (.inl ⟨l,h3⟩)
   ·exact(hgrow b (.inl ⟨l,h3⟩)).imp (hTT b) id
  ·rcases hliveV lev i hb with⟨rfl,rfl⟩|h3
   ·rw[hβ.1]
    exact .inl (.inr ⟨_,_,hl0,rfl⟩)
   ·exact(hgrow _ (.inr ⟨lev,i,h3,rfl⟩)).imp (hTT _) id
end
theorem lV {o:Ob}:kb o=true↔aK o:=by cases o<;>simp[kb,aK]
theorem uh {o:Ob}(h:(!kb o)=true):o= .dead:=by cases o<;>simp[kb]at h ⊢
def Pl.lev (L:Nat):Pl→Nat
 | .own _=>L
 | .out lev _=>lev
def Pl.idx:Pl→Nat
 | .own i=>i
 | .out _ i=>i
theorem Lb {β:Type}{t:Nat}{k:Pl→Ob→S→Mu→Option β}{r:β}(hμ:μ.length=L)(h:gA t s μ k=some r):
  ∃pl ob sh μh,SetOb s μ sh μh (pl.lev L) pl.idx .dead∧aE (μ++[s.lam]) (pl.lev L) pl.idx=ob∧aK ob∧(pl.lev L=L→s.pushed=true)∧pl.lev L≤L∧(∀lev i,pl= .out lev i→lev<L∧i<(μ.getD lev []).length)∧k pl ob sh μh=some r:=by
 unfold gA at h
 split at h
 ·rename_i i off hf
  split at h<;>try(cases h;done)
  rename_i hp
  obtain⟨h1,h2⟩:=aF.1 h
  have h1:=lV.1 h1
  refine⟨.own i,_,_,_,?_,?_,h1,fun _=>hp,?_,(fun _ _ e=>by cases e),h2⟩
  ·simp only[Pl.lev,Pl.idx]
   subst hμ
   exact BA (ia h1)
  ·simp only[Pl.lev,Pl.idx]
   subst hμ
   exact br
  ·simp[Pl.lev]
 ·obtain⟨q,_,h⟩:=ac.1 h
  obtain⟨h1,h2⟩:=aF.1 h
  have h1:=lV.1 h1
  obtain⟨h3,h4⟩:=T6 h1
  refine⟨.out q.1 q.2.1,_,_,_,Bz h3 h4,?_,h1,?_,?_,(fun _ _ e=>by injection e with e1 e2;subst e1 e2;exact⟨by omega,h4⟩),h2⟩
  ·exact ba h3
  ·intro e
   simp only[Pl.lev]at e
   omega
  ·simp only[Pl.lev]
   omega
 ·cases h
theorem zx {β:Type}{pl:Pl}{ob:Ob}{k:S→Mu→Option β}{r:β}{dst:Option Tmp}{v:LV}{tm:Array Value}(R:Rel G L (s.put dst v) μ tm w)(hin: ∀lev i,pl= .out lev i→lev<L∧i<G.n lev)(h:fj pl ob s μ k=some r):
  ∃sv μv,SetOb (s.put dst v) μ (sv.put dst v) μv (pl.lev L) pl.idx ob∧aE (μ++[(s.put dst v).lam]) (pl.lev L) pl.idx= .dead∧k sv μv=some r:=by
 have hμ:=R.lev
 have hlam:(s.put dst v).lam=s.lam:=by cases dst<;>rfl
 cases pl with
 |own i=>
  simp only[fj]at h
  obtain⟨h1,h2⟩:=aF.1 h
  simp only[Bool.and_eq_true]at h1
  have hi:i<s.lam.length:=by simpa[Nat.blt_eq]using h1.1
  refine⟨_,_,?_,?_,h2⟩
  ·simp only[Pl.lev,Pl.idx]
   have e:S.put {s with lam:=s.lam.set i ob} dst v={s.put dst v with lam:=(s.put dst v).lam.set i ob}:=by cases dst<;>rfl
   rw[e]
   subst hμ
   exact BA (by rw[hlam];exact hi)
  ·simp only[Pl.lev,Pl.idx]
   subst hμ
   rw[aE,br,hlam]
   exact uh h1.2
 |out lev i=>
  simp only[fj]at h
  obtain⟨h1,h2⟩:=aF.1 h
  obtain⟨h3,h4⟩:=hin lev i rfl
  refine⟨_,_,?_,?_,h2⟩
  ·simp only[Pl.lev,Pl.idx]
   exact Bz (by omega) (by rw[←R.nlt lev h3];exact h4)
  ·simp only[Pl.lev,Pl.idx]
   rw[aE,ba (by omega)]
   rw[Bool.and_eq_true]at h1
   exact uh h1.2
theorem Mn (R:Rel G L s μ a.tmps w)(hd: ∀d,o.dst=some d→d<a.tmps.size)(hk:KOK L G w s μ a o.dst k r K)(hpk:POK L G w s μ a p r Q)(hrho:d7 P W0 ρ)(hkn:Kn W0 w (aB G w s μ a.tmps))
  (hop:uK P ρ h o s μ k p=some r):o.wp P a w K Q:=by
 unfold uK at hop
 split at hop
 ·exact zi R hd hk hpk hrho hkn hop
 ·obtain⟨pl,ob,sh,μh,H,hob,hlv,hpu,hle,hpl,hop⟩:=Lb R.lev hop
  obtain⟨Rh,hown,hlive⟩:=R.drop H
  have hTT: ∀b,aB G w sh μh a.tmps b→aB G w s μ a.tmps b:=by
   rintro b (⟨l,hb⟩|⟨lev,i,hb,rfl⟩)
   ·exact .inl ⟨l,(hown l _ hb).1⟩
   ·exact .inr ⟨lev,i,(hlive lev i hb).1,rfl⟩
  have hin: ∀{G2:Gh} {w2:World} {T2:Nat→Prop},Ext L (aB G w sh μh a.tmps) G w G2 w2 T2→ ∀lev i,pl= .out lev i→lev<L∧i<G2.n lev:=by
   intro G2 w2 T2 E lev i e
   obtain⟨h1,h2⟩:=hpl lev i e
   exact⟨h1,by rw[(E.lev lev h1).2,R.nlt lev h1];exact h2⟩
  refine zi Rh hd ?_ ?_ hrho (hkn.mono hTT) hop
  ·intro v s' μ' cv w' G' hk2 R' E'
   obtain⟨sv,μv,V,hdead,hk3⟩:=zx R' (hin E') hk2
   obtain⟨RV,EV⟩:=R.undrop H hob hlv hpu hle R' E' hdead V
   exact hk v sv μv cv w' G' hk3 RV EV
  ·intro v s' μ' pv w' G' hk2 R' hv E'
   obtain⟨sv,μv,V,hdead,hk3⟩:=zx (dst:=none) (v:= .cv .undef) R' (hin E') hk2
   obtain⟨RV,EV⟩:=R.undrop H hob hlv hpu hle R' E' hdead V
   exact hpk v sv μv pv w' G' hk3 RV hv EV
theorem KOK.ext {G1:Gh}{s1:S}{μ1:Mu}(E:Ext L (aB G w s μ a.tmps) G w G1 w (aB G1 w s1 μ1 a.tmps)){dst:Option Tmp}(hk:KOK L G w s μ a dst k r K):KOK L G1 w s1 μ1 a dst k r K:=
 fun v s' μ' cv w' G' h R E'=>hk v s' μ' cv w' G' h R (E.trans E')
theorem POK.ext {G1:Gh}{s1:S}{μ1:Mu}(E:Ext L (aB G w s μ a.tmps) G w G1 w (aB G1 w s1 μ1 a.tmps))(hk:POK L G w s μ a p r Q):POK L G1 w s1 μ1 a p r Q:=
 fun v s' μ' cv w' G' h R hv E'=>hk v s' μ' cv w' G' h R hv (E.trans E')
theorem o4 (R:Rel G L s μ a.tmps w)(hd: ∀d,o.dst=some d→d<a.tmps.size)(hk:KOK L G w s μ a o.dst k r K)(hpk:POK L G w s μ a p r Q)(hrho:d7 P W0 ρ)(hkn:Kn W0 w (aB G w s μ a.tmps))
  (hop:opK P ρ h o s μ k p=some r):o.wp P a w K Q:=by
 unfold opK at hop
 obtain⟨s1,h1,hop⟩:=ac.1 hop
 rw[ly]at hop
 obtain⟨s2,h2,hop⟩:=ac.1 hop
 obtain⟨G1,R1,E1⟩:=sc h1 R
 obtain⟨G2,R2,E2⟩:=nP h2 R1
 exact Mn R2 hd (hk.ext (E1.trans E2)) (hpk.ext (E1.trans E2)) hrho (hkn.ext (E1.trans E2)) hop
end
end Go.Abs
set_option linter.unusedVariables false
set_option linter.unusedSimpArgs false
namespace Go.Abs
open Go
section
variable {P:Program}{W0:World}{ρ:Rho}{α:Type}{L:Nat}{H:Hints}{rg:Nat}{ops:Array Oper}{r:α}{Q:Exit→Act→World→Prop}
structure Keep where
 ds:List Deferred
 kp:Option (Nat×Value)
def Keep.at (K:Keep)(a:Act):Prop:=a.defers=K.ds∧ ∀t v,K.kp=some (t,v)→a.tmps.getD t undef=v
def Keep.slot (K:Keep):Option Nat:=match K.kp with|some q=>some q.1|none=>none
def Keep.lets (K:Keep)(d:Nat):Prop:= ∀t v,K.kp=some (t,v)→d≠t
theorem Keep.put {K:Keep}{a:Act}(h:K.at a){dst:Option Tmp}{v:Value}(hd: ∀d,dst=some d→K.lets d):K.at (a.put dst v):=by
 cases dst with
 |none=>exact h
 |some d=>
  refine⟨h.1,fun t u e=> ?_⟩
  have hne:=hd d rfl t u e
  rw[←h.2 t u e]
  simp only[Act.put,Array.getD_eq_getD_getElem?,Array.getElem?_setIfInBounds]
  rw[if_neg hne]
def Kl {α:Type}(L:Nat)(G:Gh)(w:World)(T:Nat→Prop)(n:Nat)(ds:Keep)(k:S→Mu→Option α)(r:α)(Q:Exit→Act→World→Prop):Prop:=
 ∀s μ a w' G',k s μ=some r→Rel G' L s μ a.tmps w'→Ext L T G w G' w' (aB G' w' s μ a.tmps)→a.tmps.size=n→ds.at a→Q .normal a w'
def Tp {α:Type}(L:Nat)(G:Gh)(w:World)(T:Nat→Prop)(n:Nat)(ds:Keep)(p:CV→S→Mu→Option α)(r:α)(Q:Exit→Act→World→Prop):Prop:=
 ∀v s μ pv a w' G',p v s μ=some r→Rel G' L s μ a.tmps w'→VR G' w' v pv→Ext L T G w G' w' (aB G' w' s μ a.tmps)→a.tmps.size=n→ds.at a→Q (.panic [{v:=pv,recovered:=false}]) a w'
theorem SD (g:Fr)(t:Nat)(v:LV)(h:g t=v):upd g t v=g:=by
 funext u
 by_cases hu:u=t
 ·subst hu;rw[fH,h]
 ·rw[eD g v hu]
theorem S.set_self (s:S)(t:Nat)(v:LV)(h:s.fr t=v):s.set t v=s:=by
 unfold S.set
 rw[SD s.fr t v h]
theorem jQ (a:Act)(d:Option Tmp)(v:Value):(a.put d v).tmps.size=a.tmps.size∧(a.put d v).defers=a.defers:=by
 cases d<;>simp[Act.put]
theorem zM {G:Gh}{w:World}{s:S}{μ:Mu}{a:Act}(R:Rel G L s μ a.tmps w){j d:Nat}{b:Bool}(hd:na ops j=some d)(hlt: ∀(i:Nat) (o:Oper),ops[i]? =some o→ ∀d,o.dst=some d→d<a.tmps.size)
  (hb:aM (s.fr d)=some b):yielded ops a.tmps j=some b:=by
 have hv:=R.fr d
 rw[fW hb]at hv
 simp only[LVR,VR]at hv
 unfold na at hd
 cases ho:ops[j]? with
 |none=>rw[ho]at hd;simp at hd
 |some o=>
  rw[ho]at hd
  have hd:o.dst=some d:=hd
  have hsz:=hlt j o ho d hd
  have:a.tmps[d]? =some (.bool b):=by
   rw[←hv,Array.getD_eq_getD_getElem?,Array.getElem?_eq_getElem hsz]
   rfl
  simp[yielded,ho,hd,this]
theorem mQ {v:LV}{b:Bool}(h:ed v=some (some b)):aM v=some b:=by
 unfold ed at h
 split at h
 ·simpa[aM]using h
 ·simp at h
 ·simp at h
theorem BR {v:LV}(h:ed v=some none): ∃cs,v= .cv (.v (.tuple cs)):=by
 unfold ed at h
 split at h
 ·simp at h
 ·exact⟨_,rfl⟩
 ·simp at h
theorem vd {G:Gh}{w:World}{s:S}{μ:Mu}{a:Act}(R:Rel G L s μ a.tmps w){j d:Nat}(hd:na ops j=some d)(hlt: ∀(i:Nat) (o:Oper),ops[i]? =some o→ ∀d,o.dst=some d→d<a.tmps.size)
  (hb:ed (s.fr d)=some none):yielded ops a.tmps j=none:=by
 have hv:=R.fr d
 obtain⟨cs,e⟩:=BR hb
 rw[e]at hv
 simp only[LVR,VR]at hv
 unfold na at hd
 cases ho:ops[j]? with
 |none=>rw[ho]at hd;simp at hd
 |some o=>
  rw[ho]at hd
  have hd:o.dst=some d:=hd
  have hsz:=hlt j o ho d hd
  have:a.tmps[d]? =some (.tuple cs):=by
   rw[←hv,Array.getD_eq_getD_getElem?,Array.getElem?_eq_getElem hsz]
   rfl
  simp[yielded,ho,hd,this]
theorem Rel.skip {G:Gh}{w:World}{s:S}{μ:Mu}{a:Act}(R:Rel G L s μ a.tmps w)(dst:Option Tmp)(hd: ∀d,dst=some d→d<a.tmps.size):
  Rel G L (s.put dst (.cv (.v undef))) μ (a.put dst undef).tmps w∧Ext L (aB G w s μ a.tmps) G w G w (aB G w (s.put dst (.cv (.v undef))) μ (a.put dst undef).tmps):=
 cg R (Ext.refl G w fun _ h=>h) (by simp[LVR,VR]) (fun b hb=>by simp[aH]at hb) hd
theorem ie (hrho:d7 P W0 ρ){T:Nat→Prop}{G0:Gh}{w0:World}{n:Nat}{ds:Keep}{k:S→Mu→Option α}{p:CV→S→Mu→Option α}(hlt: ∀(i:Nat) (o:Oper),ops[i]? =some o→ ∀d,o.dst=some d→d<n∧ds.lets d)
  (hkn:Kn W0 w0 T) (hk:Kl L G0 w0 T n ds k r Q) (hp:Tp L G0 w0 T n ds p r Q):
  ∀(l:List Nat) {G:Gh} {w:World} {s:S} {μ:Mu} {a:Act},fg P ρ H rg ops l s μ k p=some r→Rel G L s μ a.tmps w→Ext L T G0 w0 G w (aB G w s μ a.tmps)→a.tmps.size=n→ds.at a→wpOps P ops Q l a w
 |[],G,w,s,μ,a,h,R,E,hn,hds=>by
  simp only[fg]at h
  simp only[wpOps]
  exact hk s μ a w G h R E hn hds
 |i::rest,G,w,s,μ,a,h,R,E,hn,hds=>by
  simp only[fg]at h
  simp only[wpOps]
  cases ho:ops[i]? with
  |none=>rw[ho]at h;simp at h
  |some o=>
   rw[ho]at h
   simp only at h ⊢
   have hlt': ∀d,o.dst=some d→d<a.tmps.size:=fun d hd=>by rw[hn];exact(hlt i o ho d hd).1
   have hlt2: ∀(i:Nat) (o:Oper),ops[i]? =some o→ ∀d,o.dst=some d→d<a.tmps.size:=fun i o ho d hd=>by rw[hn];exact(hlt i o ho d hd).1
   have hkok:KOK L G w s μ a o.dst (fun v s μ=>fg P ρ H rg ops rest (s.put o.dst v) μ k p) r (wpOps P ops Q rest):=by
    intro v s' μ' cv w' G' h' R' E'
    exact ie hrho hlt hkn hk hp rest h' R' (E.trans E') (by rw[(jQ a o.dst cv).1];exact hn) (Keep.put hds fun d hd=>(hlt i o ho d hd).2)
   have hpok:POK L G w s μ a p r Q:=fun v s' μ' pv w' G' h' R' hv E'=>hp v s' μ' pv a w' G' h' R' hv (E.trans E') hn hds
   cases hg:o.guard with
   |none=>
    rw[hg]at h
    have hw:Region.wanted o (yielded ops a.tmps)=true:=by simp[Region.wanted,hg]
    rw[if_pos hw]
    exact .inl (o4 R hlt' hkok hpok hrho (hkn.ext E) h)
   |some g=>
    rw[hg]at h
    simp only at h
    obtain⟨d,hd,h⟩:=ac.1 h
    obtain⟨q,hq,h⟩:=ac.1 h
    cases q with
    |none=>
     have hy:=vd R hd hlt2 hq
     obtain⟨j,want⟩:=g
     simp only at hd hy h
     have hw: ¬Region.wanted o (yielded ops a.tmps)=true:=by simp[Region.wanted,hg,hy]
     rw[if_neg hw]
     obtain⟨R2,E2⟩:=R.skip o.dst hlt'
     exact ie hrho hlt hkn hk hp rest h R2 (E.trans E2) (by rw[(jQ a o.dst undef).1];exact hn) (Keep.put hds fun d hd=>(hlt i o ho d hd).2)
    |some b=>
    have hb:=mQ hq
    have hy:=zM R hd hlt2 hb
    have hbe:=fW hb
    obtain⟨j,want⟩:=g
    simp only at hd hy h
    cases b with
    |true=>
     rw[S.set_self s d _ hbe]at h
     simp only[cond_true]at h
     cases want with
     |true=>
      have hw:Region.wanted o (yielded ops a.tmps)=true:=by simp[Region.wanted,hg,hy]
      rw[if_pos hw]
      exact .inl (o4 R hlt' hkok hpok hrho (hkn.ext E) h)
     |false=>
      have hw: ¬Region.wanted o (yielded ops a.tmps)=true:=by simp[Region.wanted,hg,hy]
      rw[if_neg hw]
      obtain⟨R2,E2⟩:=R.skip o.dst hlt'
      exact ie hrho hlt hkn hk hp rest h R2 (E.trans E2) (by rw[(jQ a o.dst undef).1];exact hn) (Keep.put hds fun d hd=>(hlt i o ho d hd).2)
    |false=>
     rw[S.set_self s d _ hbe]at h
     simp only[cond_false]at h
     cases want with
     |false=>
      have hw:Region.wanted o (yielded ops a.tmps)=true:=by simp[Region.wanted,hg,hy]
      rw[if_pos hw]
      exact .inl (o4 R hlt' hkok hpok hrho (hkn.ext E) h)
     |true=>
      have hw: ¬Region.wanted o (yielded ops a.tmps)=true:=by simp[Region.wanted,hg,hy]
      rw[if_neg hw]
      obtain⟨R2,E2⟩:=R.skip o.dst hlt'
      exact ie hrho hlt hkn hk hp rest h R2 (E.trans E2) (by rw[(jQ a o.dst undef).1];exact hn) (Keep.put hds fun d hd=>(hlt i o ho d hd).2)
theorem K3 {n:Nat}{ds:Keep}{d:Nat}(h:K2 n ds.slot d=true):d<n∧ds.lets d:=by
 unfold K2 at h
 split at h
 ·rename_i hb
  refine⟨by simpa[Nat.blt_eq]using hb,fun t v e hdt=> ?_⟩
  simp only[Keep.slot,e]at h
  subst hdt
  simp[Nat.beq_refl]at h
 ·cases h
theorem k9 {n:Nat}{ds:Keep}: ∀{l:List Oper},mD n ds.slot l=true→ ∀{i:Nat} {o:Oper},l[i]? =some o→ ∀d,o.dst=some d→d<n∧ds.lets d
 |[],_,i,o,h,d,_=>by simp at h
 |x::r,hl,i,o,h,d,hd=>by
  have key:mD n ds.slot r=true∧ ∀d,x.dst=some d→d<n∧ds.lets d:=by
   simp only[mD]at hl
   split at hl
   ·rename_i e;exact⟨hl,fun d hd=>by rw[e]at hd;cases hd⟩
   ·rename_i d' e
    split at hl
    ·rename_i hb;exact⟨hl,fun d hd=>by rw[e]at hd;injection hd with hd;subst hd;exact K3 hb⟩
    ·simp at hl
  cases i with
  |zero=>simp only[List.getElem?_cons_zero,Option.some.injEq]at h;subst h;exact key.2 d hd
  |succ i=>exact k9 key.1 (by simpa using h) d hd
end
end Go.Abs
set_option linter.unusedVariables false
set_option linter.unusedSimpArgs false
namespace Go.Abs
open Go
section
variable {α β γ:Type}
theorem aI {x:Option α}{f:α→Option β}{k:β→Option γ}:opt (opt x f) k=opt x fun a=>opt (f a) k:=by
 cases x<;>rfl
theorem bd {b:Bool}{x:Option β}{k:β→Option γ}:opt (ax b x) k=ax b (opt x k):=by
 cases b<;>rfl
theorem eR {k:β→Option γ}:opt (none:Option β) k=none:=rfl
theorem a6 {a:β}{k:β→Option γ}:opt (some a) k=k a:=rfl
theorem Bk {d:TypeDesc}{x:LV}{f:CV→Option β}{k:β→Option γ}:opt (gz d x f) k=gz d x fun c=>opt (f c) k:=by
 unfold gz
 cases d<;>exact aI
theorem rF: ∀{ds:List TypeDesc} {cs:List CV} {f:List CV→Option β} {k:β→Option γ},opt (dt ds cs f) k=dt ds cs fun c=>opt (f c) k
 |[],cs,f,k=>by unfold dt;exact aI
 |d::ds,cs,f,k=>by
  unfold dt
  simp only[aI,Bk,rF]
variable {P:Program}
theorem k7 {t:TypeId}{x:LV}{f:CV→Option β}{k:β→Option γ}:opt (fG P t x f) k=fG P t x fun c=>opt (f c) k:=by
 unfold fG
 cases bD P t
 ·cases P.underlying t
  ·rfl
  ·exact Bk
 ·cases yI P t<;>simp only[aI,rF]
theorem zb {own:Bool}{t:TypeId}{x:LV}{f:LV→Option β}{k:β→Option γ}:opt (jG P own t x f) k=jG P own t x fun c=>opt (f c) k:=by
 unfold jG
 cases own
 ·exact k7
 ·exact aI
theorem uw: ∀{ts:List TypeId} {xs:List LV} {f:List LV→Option β} {k:β→Option γ},opt (eo P ts xs f) k=eo P ts xs fun c=>opt (f c) k
 |[],xs,f,k=>by unfold eo;exact aI
 |t::ts,xs,f,k=>by
  unfold eo
  simp only[aI,zb,uw]
theorem ib {own:Bool}{t:TypeId}{x:LV}{f:LV→Option β}{k:β→Option γ}:opt (cW P own t x f) k=cW P own t x fun c=>opt (f c) k:=by
 unfold cW
 split
 ·simp only[aI,uw]
 ·exact zb
theorem wb {b:Bool}{t:TypeId}{x:LV}{f:LV→Option β}{k:β→Option γ}:opt (kf P b t x f) k=kf P b t x fun c=>opt (f c) k:=by
 cases b with
 |true=>exact ib
 |false=>rfl
theorem Pp {h:OpHint}{t:TypeId}{a:LV}{s:S}{μ:Mu}{f:LV→S→Mu→Option β}{k:β→Option γ}:opt (gB P h t a s μ f) k=gB P h t a s μ fun v s μ=>opt (f v s μ) k:=by
 unfold gB
 split
 ·split
  ·rfl
  ·split
   ·simp only[aI,wb]
   ·exact aI
 ·split
  ·simp only[aI]
  ·simp only[aI]
   congr;funext q
   split<;>simp only[aI,ib]
 ·rfl
theorem Lv {h:OpHint}{t:TypeId}{a v:LV}{s:S}{μ:Mu}{f:LV→S→Mu→Option β}{k:β→Option γ}:opt (it P h t a v s μ f) k=it P h t a v s μ fun v s μ=>opt (f v s μ) k:=by
 unfold it
 split
 ·split
  ·rfl
  ·simp only[lY]
   exact aI
 ·split
  ·rfl
  ·simp only[aI,bd]
 ·rfl
theorem qd {h:OpHint}{t:TypeId}{a:LV}{i:Nat}{f:LV→Option β}{k:β→Option γ}:opt (fa P h t a i f) k=fa P h t a i fun c=>opt (f c) k:=by
 unfold fa
 simp only[aI]
 congr;funext q
 split
 ·rfl
 ·split
  ·simp only[aI,rF,bd]
  ·simp only[aI]
 ·rfl
theorem Bl {b:Bool}{m:Nat}{c:CV}{f:LV→Option β}{k:β→Option γ}:opt (kK b m c f) k=kK b m c fun v=>opt (f v) k:=by
 cases b
 ·simp only[kK,bd]
 ·simp only[kK,bd]
theorem qe {h:OpHint}{t:TypeId}{a:LV}{i:Int}{f:LV→Option β}{k:β→Option γ}:opt (fb P h t a i f) k=fb P h t a i fun c=>opt (f c) k:=by
 unfold fb eZ
 split
 ·simp only[aI]
  congr;funext q
  split
  ·exact bd
  ·simp only[aI,k7,bd,Bl]
  ·split<;>simp only[aI,k7,bd,Bl]
  ·rfl
 ·simp only[aI]
  congr;funext q
  split
  ·exact bd
  ·split<;>simp only[aI,bd]
  ·rfl
 ·rfl
theorem y9 {t:TypeId}{a:LV}{i:Int}{f:LV→Option β}{k:β→Option γ}:opt (kO P t a i f) k=kO P t a i fun c=>opt (f c) k:=by
 unfold kO eZ
 split
 ·simp only[aI]
 ·split
  ·simp only[aI,bd,k7]
  ·rfl
 ·rfl
theorem y8 {ev:Operand→LV}{x:Option Operand}{d:Int}{f:Int→Option β}{k:β→Option γ}:opt (cT ev x d f) k=cT ev x d fun c=>opt (f c) k:=by
 unfold cT
 cases x
 ·rfl
 ·exact aI
theorem za {t:TypeId}{x:LV}{lo hi:Option Operand}{ev:Operand→LV}{f:LV→Option β}{k:β→Option γ}:opt (ir P t x lo hi ev f) k=ir P t x lo hi ev fun c=>opt (f c) k:=by
 unfold ir
 split
 ·simp only[aI,y8]
 ·simp only[aI]
  congr;funext q
  split<;>simp only[aI,y8,bd,eR]
 ·rfl
theorem vZ {h:OpHint}{t:TypeId}{xt:Option TypeId}{x y:LV}{s:S}{μ:Mu}{f:LV→S→Mu→Option β}{k:β→Option γ}:opt (fL P h t xt x y s μ f) k=fL P h t xt x y s μ fun v s μ=>opt (f v s μ) k:=by
 unfold fL
 split
 ·cases xt
  ·simp only[aI,bd,eR]
  ·simp only[aI,bd]
   congr;funext q;congr;funext q;congr
   cases h.own
   ·simp only[aI]
    congr;funext q
    split<;>simp only[aI,bd,eR]
   ·simp only[aI]
    congr;funext q
    split<;>simp only[aI,bd,eR]
 ·rfl
theorem uv {h:OpHint}{src dst:TypeId}{x:LV}{s:S}{μ:Mu}{f:LV→S→Mu→Option β}{k:β→Option γ}:opt (c8 P h src dst x s μ f) k=c8 P h src dst x s μ fun v s μ=>opt (f v s μ) k:=by
 unfold c8
 split
 ·split<;>simp only[aI,eR]
 ·split
  ·simp only[aI]
  ·split
   ·split
    ·split<;>simp only[aI,bd,eR]
    ·simp only[aI]
   ·rfl
  ·rfl
 ·split
  ·split
   ·simp only[aI,bd]
    congr;funext q
    congr
    split<;>rfl
   ·rfl
  ·rfl
 ·rfl
theorem R0 {x:Option α}{f:α→Option β}{g:Option β}{k:β→Option γ}:opt (optE x f g) k=optE x (fun a=>opt (f a) k) (opt g k):=by cases x<;>rfl
theorem wa {t:TypeId}{m x y:LV}{s:S}{μ:Mu}{f:LV→S→Mu→Option β}{k:β→Option γ}:opt (iy P t m x y s μ f) k=iy P t m x y s μ fun v s μ=>opt (f v s μ) k:=by
 unfold iy
 simp only[aI]
 congr;funext q;congr;funext q2;congr;funext q3
 split
 ·split<;>first|exact bd|rfl
 ·split<;>first|exact bd|rfl
 ·rfl
theorem Gn {t:TypeId}{m x:LV}{ok:Bool}{s:S}{μ:Mu}{f:LV→Option β}{k:β→Option γ}:opt (jj P t m x ok s μ f) k=jj P t m x ok s μ fun v=>opt (f v) k:=by
 unfold jj eZ
 cases ok<;>simp only[aI,bd,R0,k7]
theorem Gm {x:LV}{t:TypeId}{ok:Bool}{f:LV→Option β}{k:β→Option γ}:opt (jd P x t ok f) k=jd P x t ok fun v=>opt (f v) k:=by
 unfold jd
 split
 ·rfl
 ·split
  ·rfl
  ·simp only[aI]
   congr;funext z
   split
   ·split<;>rfl
   ·rfl
   ·rfl
 ·rfl
theorem Eb {op:BinOp}{t:TypeId}{x y:Operand}{a b:LV}{f:CV→Option β}{k:β→Option γ}:opt (pf P op t x y a b f) k=pf P op t x y a b fun c=>opt (f c) k:=by
 unfold pf
 split
 ·simp only[aI]
 ·simp only[aI,bd]
variable {ρ:Rho}
theorem Bj {x:Option Out}{f:LV→Mu→Option β}{p:CV→Mu→Option β}{k:β→Option γ}:opt (callK x f p) k=callK x (fun v μ=>opt (f v μ) k) fun v μ=>opt (p v μ) k:=by
 unfold callK
 rw[aI]
 congr;funext q
 cases q<;>rfl
theorem rG {h:OpHint}{t:TypeId}{g:FuncId}{args:List LV}{s:S}{μ:Mu}{f:LV→S→Mu→Option β}{p:CV→S→Mu→Option β}{k:β→Option γ}:
  opt (d6 P ρ h t g args s μ f p) k=d6 P ρ h t g args s μ (fun v s μ=>opt (f v s μ) k) fun v s μ=>opt (p v s μ) k:=by
 unfold d6
 split
 ·simp only[bd,Bj,ib]
 ·simp only[aI,Bj,ib]
theorem Rm {h:OpHint}{o:Oper}{s:S}{μ:Mu}{f:LV→S→Mu→Option β}{p:CV→S→Mu→Option β}{k:β→Option γ}:
  opt (ck P ρ h o s μ f p) k=ck P ρ h o s μ (fun v s μ=>opt (f v s μ) k) fun v s μ=>opt (p v s μ) k:=by
 unfold ck
 dsimp only
 split
 ·rfl
 ·rfl
 ·exact aI
 ·exact aI
 ·split
  ·simp only[kH,aI]
  ·simp only[aI,bd]
 ·simp only[oP,aI]
 ·split
  ·simp only[nq,aI,bd]
   congr;funext q;congr;funext q;congr;funext q
   congr
   split<;>rfl
  ·rfl
 ·exact Pp
 ·exact Lv
 ·simp only[aI,bd]
 ·exact Eb
 ·exact aI
 ·exact uv
 ·split<;>simp only[aI,eR]
 ·split
  ·split<;>rfl
  ·rfl
 ·split
  ·exact za
  ·rfl
 ·exact qd
 ·exact aI
 ·simp only[aI,qe]
 ·simp only[aI,y9]
 ·simp only[aI]
 ·split<;>rfl
 ·exact Gm
 ·split<;>rfl
 ·split
  ·unfold yY
   split
   ·simp only[aI,bd]
   ·rfl
  ·rfl
 ·exact wa
 ·exact wa
 ·exact Gn
 ·split
  ·split
   ·split<;>simp only[aI,eR]
   ·split
    ·exact vZ
    ·rfl
   ·split
    ·unfold yt
     split
     ·simp only[aI]
      congr;funext q
      split
      ·split
       ·simp only[aI,bd]
       ·rfl
      ·rfl
     ·rfl
    ·rfl
   ·split<;>simp only[aI,eR]
   ·split<;>simp only[aI,eR]
   ·rfl
  ·rw[bd]
   congr
   split
   ·exact rG
   ·exact rG
   ·rfl
  ·rfl
 ·rfl
def a7 (P:Program)(ρ:Rho)(h:OpHint)(o:Oper)(s:S)(μ:Mu):Option (LV×S×Mu):=ck P ρ h o s μ (fun v s μ=>some (v,s,μ)) fun _ _ _=>none
theorem Bq {h:OpHint}{o:Oper}{s:S}{μ:Mu}{f:LV→S→Mu→Option β}:ck P ρ h o s μ f (fun _ _ _=>none)=opt (a7 P ρ h o s μ) fun q=>f q.1 q.2.1 q.2.2:=by
 unfold a7
 rw[Rm]
 rfl
theorem Po {t:Nat}{s:S}{μ:Mu}{k:Pl→Ob→S→Mu→Option β}{f:β→Option γ}:opt (gA t s μ k) f=gA t s μ fun pl ob s μ=>opt (k pl ob s μ) f:=by
 unfold gA
 split
 ·split
  ·exact bd
  ·rfl
 ·simp only[aI,bd]
 ·rfl
theorem Pq {pl:Pl}{ob:Ob}{s:S}{μ:Mu}{k:S→Mu→Option β}{f:β→Option γ}:opt (fj pl ob s μ k) f=fj pl ob s μ fun s μ=>opt (k s μ) f:=by
 unfold fj
 split<;>exact bd
theorem Mz {pl:Pl}{ob:Ob}{s:S}{μ:Mu}:fj pl ob s μ (fun _ _=>(none:Option β))=none:=by
 have g: ∀b,ax b (none:Option β)=none:=fun b=>by cases b<;>rfl
 unfold fj
 split<;>exact g _
def jM (P:Program)(ρ:Rho)(h:OpHint)(o:Oper)(s:S)(μ:Mu):Option (LV×S×Mu):=
 match h.hide with
 |none=>a7 P ρ h o s μ
 |some t=>gA t s μ fun pl ob s μ=>opt (a7 P ρ h o s μ) fun q=>fj pl ob q.2.1 q.2.2 fun s μ=>some (q.1,s,μ)
theorem PT {h:OpHint}{o:Oper}{s:S}{μ:Mu}{f:LV→S→Mu→Option β}:uK P ρ h o s μ f (fun _ _ _=>none)=opt (jM P ρ h o s μ) fun q=>f q.1 q.2.1 q.2.2:=by
 unfold uK jM
 cases h.hide with
 |none=>exact Bq
 |some t=>simp only[Mz,Bq,Po,Pq,aI,a6]
end
end Go.Abs
set_option linter.unusedVariables false
set_option linter.unusedSimpArgs false
namespace Go.Abs
open Go
def Ag (h:OpHint)(o:Oper)(s t:S):Prop:= ∀x,x∈o.op.operands.toList→evA h t.fr x=evA h s.fr x
section
variable {P:Program}{ρ:Rho}{h:OpHint}{o:Oper}{s t:S}{μ ν:Mu}
def bX (P:Program)(ρ:Rho)(h:OpHint)(o:Oper)(s t:S)(μ ν:Mu):Prop:=a7 P ρ h o t ν=opt (a7 P ρ h o s μ) fun q=>some (q.1,ab h.take t,ν)
theorem Kd {x:Operand}(ho:o.op= .move x∨o.op= .assign x)(ha:Ag h o s t):bX P ρ h o s t μ ν:=by
 have e:evA h t.fr x=evA h s.fr x:=ha x (by rcases ho with ho|ho<;>simp[ho,Op.operands])
 rcases ho with ho|ho<;>simp only[bX,a7,ck,ho,e,a6]
theorem UA {c x y:Operand}(ho:o.op= .pick c x y)(ha:Ag h o s t):bX P ρ h o s t μ ν:=by
 have e1:=ha c (by simp[ho,Op.operands])
 have e2:=ha x (by simp[ho,Op.operands])
 have e3:=ha y (by simp[ho,Op.operands])
 simp only[bX,a7,ck,ho,e1,e2,e3,aI,a6]
theorem Sa {ty:TypeId}{parts:Array (Nat×Operand)}(ho:o.op= .build ty parts)(ha:Ag h o s t):bX P ρ h o s t μ ν:=by
 have e:kE P ty (evA h t.fr) parts.toList=kE P ty (evA h s.fr) parts.toList:=C8 fun q hq=>ha q.2 (by simp only[ho,Op.operands];simp;exact⟨q.1,by simpa using hq⟩)
 simp only[bX,a7,ck,ho,oP,e,aI,a6]
theorem Uz {e:TypeId}{x:Operand}(ho:o.op= .box e x)(hr:h.cell=true)(ha:Ag h o s t):bX P ρ h o s t μ ν:=by
 have e:=ha x (by simp[ho,Op.operands])
 simp only[bX,a7,ck,ho,hr,e,aI,bd,a6]
theorem HW {x:Operand}(ho:o.op= .nilCheck x)(ha:Ag h o s t):bX P ρ h o s t μ ν:=by
 have e:=ha x (by simp[ho,Op.operands])
 simp only[bX,a7,ck,ho,e,aI,bd,a6]
theorem R9 {op:BinOp}{ty ty':TypeId}{x y:Operand}(ho:o.op= .binOp op ty x y ty')(ha:Ag h o s t):bX P ρ h o s t μ ν:=by
 have e1:=ha x (by simp[ho,Op.operands])
 have e2:=ha y (by simp[ho,Op.operands])
 simp only[bX,a7,ck,ho,e1,e2,Eb,a6]
theorem UB {op:UnOp}{ty:TypeId}{x:Operand}(ho:o.op= .unOp op ty x)(ha:Ag h o s t):bX P ρ h o s t μ ν:=by
 have e:=ha x (by simp[ho,Op.operands])
 simp only[bX,a7,ck,ho,e,aI,a6]
theorem xE {ty:TypeId}{x:Operand}(ho:o.op= .makeInterface ty x)(ha:Ag h o s t):bX P ρ h o s t μ ν:=by
 have e:=ha x (by simp[ho,Op.operands])
 simp only[bX,a7,ck,ho,e]
 split<;>simp only[aI,a6,eR]
theorem Fj {ty:TypeId}{x:Operand}{f:Nat}(ho:o.op= .fieldAddr ty x f)(ha:Ag h o s t):bX P ρ h o s t μ ν:=by
 have e:=ha x (by simp[ho,Op.operands])
 simp only[bX,a7,ck,ho,e,qd,a6]
theorem Sb {ty:TypeId}{x:Operand}{f:Nat}(ho:o.op= .field ty x f)(ha:Ag h o s t):bX P ρ h o s t μ ν:=by
 have e:=ha x (by simp[ho,Op.operands])
 simp only[bX,a7,ck,ho,e,aI,a6]
theorem Fk {ty:TypeId}{x y:Operand}(ho:o.op= .indexAddr ty x y)(ha:Ag h o s t):bX P ρ h o s t μ ν:=by
 have e1:=ha x (by simp[ho,Op.operands])
 have e2:=ha y (by simp[ho,Op.operands])
 simp only[bX,a7,ck,ho,e1,e2,aI,qe,a6]
theorem Sd {ty:TypeId}{x y:Operand}(ho:o.op= .index ty x y)(ha:Ag h o s t):bX P ρ h o s t μ ν:=by
 have e1:=ha x (by simp[ho,Op.operands])
 have e2:=ha y (by simp[ho,Op.operands])
 simp only[bX,a7,ck,ho,e1,e2,aI,y9,a6]
theorem Mr {x:Operand}{i:Nat}(ho:o.op= .extract x i)(ha:Ag h o s t):bX P ρ h o s t μ ν:=by
 have e:=ha x (by simp[ho,Op.operands])
 simp only[bX,a7,ck,ho,e,aI,a6]
theorem tY {β:Type}{ev ev':Operand→LV}{x:Option Operand}{d:Int}{f:Int→Option β}(h: ∀y,x=some y→ev' y=ev y):cT ev' x d f=cT ev x d f:=by
 cases x with
 |none=>rfl
 |some y=>simp only[cT,h y rfl]
theorem FC {β:Type}{ty:TypeId}{x:LV}{lo hi:Option Operand}{ev ev':Operand→LV}{f:LV→Option β}(h1: ∀y,lo=some y→ev' y=ev y)(h2: ∀y,hi=some y→ev' y=ev y):ir P ty x lo hi ev' f=ir P ty x lo hi ev f:=by
 unfold ir
 simp only[tY h1,tY h2]
theorem Se {ty:TypeId}{x:Operand}{lo hi mx:Option Operand}(ho:o.op= .slice ty x lo hi mx)(ha:Ag h o s t):bX P ρ h o s t μ ν:=by
 have e:=ha x (by simp[ho,Op.operands])
 have e1: ∀y,lo=some y→evA h t.fr y=evA h s.fr y:=fun y hy=>ha y (by simp[ho,Op.operands,hy])
 have e2: ∀y,hi=some y→evA h t.fr y=evA h s.fr y:=fun y hy=>ha y (by simp[ho,Op.operands,hy])
 simp only[bX,a7,ck,ho,e]
 cases mx with
 |none=>simp only[FC e1 e2,za,a6]
 |some m=>rfl
theorem BV {ty:TypeId}{len:Nat}{parts:Array (Nat×Operand)}(ho:o.op= .buildSlice ty len parts)(hr:h.arr=false)(ha:Ag h o s t):bX P ρ h o s t μ ν:=by
 have e: ∀b sz,mR b sz (evA h t.fr) 0 parts.toList=mR b sz (evA h s.fr) 0 parts.toList:=fun b sz=>rD fun q hq=>ha q.2 (by simp only[ho,Op.operands];simp;exact⟨q.1,by simpa using hq⟩)
 simp only[bX,a7,ck,ho,nq,e,hr]
 split<;>simp only[aI,bd,a6,eR]
theorem HV {fn:Fn}{first captured:Array Operand}(ho:o.op= .makeFunc fn first captured)(ha:Ag h o s t):bX P ρ h o s t μ ν:=by
 have e:(captured.toList.map fun x=>strip1 (evA h t.fr x))=captured.toList.map fun x=>strip1 (evA h s.fr x):=List.map_congr_left fun x hx=>by rw[ha x (by simp[ho,Op.operands];right;simpa using hx)]
 simp only[bX,a7,ck,ho,e]
 split
 ·split<;>rfl
 ·rfl
theorem BN {β:Type}{ty:TypeId}{xt:Option TypeId}{x y:LV}{f:LV→S→Mu→Option β}:fL P h ty xt x y t ν f=fL P h ty xt x y s μ fun v _ _=>f v t ν:=by
 unfold fL
 rfl
theorem Mq {c:Call}{b:Builtin}(ho:o.op= .call c)(hc:c.callee= .builtin b)(hb:b≠ .copy)(ha:Ag h o s t):bX P ρ h o s t μ ν:=by
 have hm: ∀x,x∈c.args.toList→evA h t.fr x=evA h s.fr x:=fun x hx=>ha x (by simp[ho,Op.operands,Call.operands,hc];simpa using hx)
 simp only[bX,a7,ck,ho,hc]
 split
 ·split
  ·rename_i x ty hx _
   rw[hm x (by rw[hx];simp)]
   simp only[aI,a6]
  ·rfl
 ·split
  ·rename_i x y ty xt hx _
   rw[hm x (by rw[hx];simp),hm y (by rw[hx];simp),vZ]
   simp only[a6]
   exact BN
  ·rfl
 ·exact absurd rfl hb
 ·split
  ·rename_i x y hx
   rw[hm x (by rw[hx];simp),hm y (by rw[hx];simp)]
   simp only[aI,a6]
  ·rfl
 ·split
  ·rename_i x y hx
   rw[hm x (by rw[hx];simp),hm y (by rw[hx];simp)]
   simp only[aI,a6]
  ·rfl
 ·rfl
end
end Go.Abs
