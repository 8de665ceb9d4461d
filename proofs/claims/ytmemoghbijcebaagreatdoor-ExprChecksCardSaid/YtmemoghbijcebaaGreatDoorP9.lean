/-
  The statement ExprChecksCardSaid, proved; part 10 of 10 of its proof.
  Which expressions are valid: one node, all nodes.
  Which expressions are valid: the program's check, and its trees.
  Which expressions are valid: the reference's functions.
  Which expressions are valid: the reference's error of a node.
  Which expressions are valid: the reference's check.
  Expressions: copies, the trees of a valid one, its level.
  Runs of the interpreter in which some functions are taken by their laws.
  The chapter's examples, by running the interpreter: a text with levels.
  The chapter's examples, by running the interpreter: reading.
  The chapter's examples, by running the interpreter: parentheses that are not needed, and the text.
  The chapter's examples, by running the interpreter: a call, a triplet, a pair.
  The chapter's examples, by running the interpreter: the text of a call, a triplet, a pair.
  The chapter's examples, by running the interpreter: reading.
  The chapter's examples hold.
  ExprChecks answers true for every expression.
  The operands' nodes stand together: a loop over a list from its end, by the kit's law for a range over a function.
  The operands' nodes by contract; and all functions that are taken by contract keep their word.
  An expression as an argument.
  What ExprChecks's function comes to: the closed facts of its row.
  ExprChecks answers true for every argument, and its arguments read as they did.
-/
import Derived.Test.YtmemoghbijcebaaGreatDoorP8
import Derived.Test.YtmemoghbijcebaaGreatDoorP4
import Derived.KernelRfl
import Derived.Test.YtmemoghbijcebaaGreatDoorP7
import Derived.Shelf.Strings.BuilderK
import Derived.RangeFuncBox
import Derived.RangeFuncLeaves
import Derived.Shelf.Abstract
import Derived.WalkKit
import Derived.OwnWalkIn
import Derived.TacticsInMore
import Derived.LoopNIn
import Derived.LoopIn
import Derived.Test.YtmemoghbijcebaaGreatDoorProg
import Derived.Test.YtmemoghbijcebaaGreatDoorRows
import Derived.JoinedCond
import Derived.Test.YtmemoghbijcebaaGreatDoorCards
import Derived.Test.YtmemoghbijcebaaGreatDoorTie
import Derived.OpenShut
set_option linter.all false
set_option linter.unusedSectionVars false
set_option linter.unusedVariables false
set_option linter.unusedSimpArgs false
set_option maxRecDepth 100000
namespace Go.Abs
open Go Go.Proofs
section
variable {μ:Mu}
theorem ce (l:List Int):(a8 l).length=l.length:=by simp[a8]
theorem VY {i:Nat}{k ty:Int}{s:List UInt8}{fs:List CV}{l:List Int}{c0 c1:Int}{c2:List UInt8}{c3:List CV}(hc:c0=k)(hi:i≤1000000)(hl:l.length≤100000): ∀(m n:Nat) (b:Bool),n+m=l.length→
  fy (ev E) (i:Int) fs b (a8 l) (l.length:Int) (n:Int) c0 c1 c2 c3 μ=some (tM (i:Int) fs (b&&(l.drop n).all (jn i k)) c0 c1 c2 c3 μ):=by
 subst hc
 intro m
 induction m with
 |zero=>
  intro n b hn
  refine aW ?_
  rw[ED,cw (by omega),cond_false,List.drop_eq_nil_of_le (by omega)]
  simp
 |succ m ih=>
  intro n b hn
  have hlt:n<l.length:=by omega
  refine aW ?_
  rw[ED,cj hlt,cond_true,eC,List.getElem?_eq_getElem hlt,Option.map_some,aa,cQ,aa,bM (by omega),bB (by omega) (by omega),List.drop_eq_getElem_cons hlt,List.all_cons,vz]
  simp only[ad,ao,aa,ak,am,ah,ae,aj,aA,cond_true,cond_false,Bool.not_true,Bool.not_false,av,au,aq]
  cases b with
  |false=>
   rw[cond_false,ih (n+1) false (by omega)]
   simp
  |true=>
   have ho:jn i c0 l[n]=((decide (0≤l[n])&&decide (l[n]≤(i:Int) -1))||(decide (l[n]= -1)&&decide (c0=3))):=rfl
   rw[cond_true,ho,Bool.true_and]
   cases (decide (0≤l[n])&&decide (l[n]≤(i:Int) -1))with
   |true=>
    rw[cond_true,ih (n+1) true (by omega)]
    simp only[Bool.true_and,Bool.true_or]
   |false=>
    rw[cond_false]
    cases decide (l[n]= -1)with
    |true=>
     rw[cond_true,ih (n+1) _ (by omega)]
     simp only[Bool.true_and,Bool.false_or]
    |false=>
     rw[cond_false,ih (n+1) _ (by omega)]
     simp only[Bool.false_and,Bool.false_or]
theorem Vb {ts:List T}(hf:i6 ts):(dx ts).all (fun v=>decide (0≤v)&&decide (v≤(dx ts).length))=true:=by
 rw[List.all_eq_true]
 intro v hv
 obtain⟨j,hj⟩:=List.mem_iff_getElem?.1 hv
 rw[xl]at hj
 rw[pk]
 cases ht:ts[j]? with
 |none=>rw[ht]at hj;cases hj
 |some t=>
  rw[ht]at hj
  simp only[Option.map_some,Option.some.injEq]at hj
  have hlt:j<ts.length:=(List.getElem?_eq_some_iff.1 ht).1
  have:=hf j t ht
  simp;omega
theorem Sr {f:Int}{x:Nd}(hs:x.text.length≤200000){c3:List CV}: ∃g,M2 (ev E) f x.kind x.typ x.text c3 μ=some (fl g (gR x) μ)∧(gR x=0→g=f):=by
 have h44:=WX (μ:=μ) hs
 have h90:=S5 (μ:=μ) (k:=x.typ) hs
 unfold gR
 by_cases h1:x.kind=1
 ·cases hc:hP x.text with
  |true=>
   refine⟨f,aR ?_,fun _=>rfl⟩
   rw[nY,h44,hc,h1]
   rfl
  |false=>
   refine⟨0,aR ?_,fun h=> ?_⟩
   ·rw[nY,h44,hc,h1]
    rfl
   ·rw[if_pos ⟨.inl h1,rfl⟩]at h;cases h
 by_cases h2:x.kind=2
 ·cases hc:hP x.text with
  |true=>
   refine⟨f,aR ?_,fun _=>rfl⟩
   rw[nY,h44,hc,h2]
   rfl
  |false=>
   refine⟨0,aR ?_,fun h=> ?_⟩
   ·rw[nY,h44,hc,h2]
    rfl
   ·rw[if_pos ⟨.inr h2,rfl⟩]at h;cases h
 refine⟨f,aR ?_,fun _=>rfl⟩
 rw[nY,decide_eq_false h1,decide_eq_false h2,cond_false,cond_false,if_neg (fun h=>h.1.elim h1 h2)]
 by_cases h0:x.kind=0
 ·rw[decide_eq_true h0,cond_true,h90,if_pos h0]
  simp only[ad,ao,aa,ak,am,ah,ae,aj,aA,cond_true,cond_false,Bool.not_true,Bool.not_false,av,au,aq]
 ·rw[decide_eq_false h0,cond_false,if_neg h0]
def vq (ts:List T)(i:Nat)(x:Nd):Int:=match fk ts x.args.reverse i with|none=>3|some _=>gR x
theorem Sq {ts:List T}{x:Nd}(hf:i6 ts)(hi:ts.length≤1000000)(hs:x.text.length≤200000)(hl:x.args.length≤100000):
  ∃g,M1 (ev E) (ts.length:Int) (a8 (dx ts)) x.kind x.typ x.text (a8 x.args) μ=some (oG g (vq ts ts.length x) μ)∧(vq ts ts.length x=0→fk ts x.args.reverse ts.length=some g):=by
 have hok:zF (dx ts) x.args (ts.length:Int)=true:=by
  unfold zF
  rw[Vb hf,pk]
  simp;omega
 obtain⟨e1,e2⟩:=vJ hf x.args.reverse ts.length (by omega) (by omega)
 have h:=Vl (μ:=μ) hok
 rw[e1]at h
 unfold vq
 cases hv:fk ts x.args.reverse ts.length with
 |none=>
  refine⟨0,aR ?_,fun h=>by cases h⟩
  rw[Eg,h,hv]
  rfl
 |some v=>
  obtain⟨g,k1,k2⟩:=Sr (μ:=μ) (f:=v) (c3:=a8 x.args) hs
  refine⟨g,aR ?_,fun h=>by rw[k2 h]⟩
  rw[Eg,h,hv]
  simp only[FI,ad,ao,aa,ak,am,ah,ae,aj,aA,cond_true,cond_false,Bool.not_true,Bool.not_false,av,au,aq]
  rw[k1,aa]
  exact Hc _ _ _ _
def lR (ts:List T)(i:Nat)(x:Nd):Int:=if(jf x&&gE i x)=false then 3 else vq ts i x
theorem UJ {ts:List T}{x:Nd}(hf:i6 ts)(hi:ts.length≤1000000)(hs:x.text.length≤200000)(hl:x.args.length≤100000):
  ∃g,SP (ev E) (ts.length:Int) (a8 (dx ts)) x.kind x.typ x.text (a8 x.args) μ=some (nG g (lR ts ts.length x) μ)∧(lR ts ts.length x=0→fk ts x.args.reverse ts.length=some g):=by
 have key: ∀b,(b=jf x)→ ∃g,opt (fy (ev E) (ts.length:Int) (a8 (dx ts)) b (a8 x.args) ((a8 x.args).length:Int) (0:Int) x.kind x.typ x.text (a8 x.args) μ) (kS (ev E) H67 [.block 0,.seq (cA 67 [1,1,1,1,1,1,1])] [(6,0),(7,0)])=some (nG g (lR ts ts.length x) μ)∧(lR ts ts.length x=0→fk ts x.args.reverse ts.length=some g):=by
  intro b hb
  have h:=VY (μ:=μ) (i:=ts.length) (k:=x.kind) (ty:=0) (s:=[]) (fs:=a8 (dx ts)) (l:=x.args) (c0:=x.kind) (c1:=x.typ) (c2:=x.text) (c3:=a8 x.args) rfl hi hl x.args.length 0 b (by omega)
  have e0:((0:Nat):Int)=0:=rfl
  rw[e0,List.drop_zero]at h
  rw[ce,h,aa,HJ]
  unfold lR gE
  rw[hb]
  cases hq:(jf x&&x.args.all (jn ts.length x.kind))with
  |false=>
   rw[if_pos rfl]
   exact⟨0,rfl,fun h=>by cases h⟩
  |true=>
   obtain⟨g,k1,k2⟩:=Sq (μ:=μ) (x:=x) hf hi hs hl
   rw[if_neg (by simp)]
   refine⟨g,?_,k2⟩
   rw[k1]
   simp only[Bool.not_true,cond_false,aa]
   exact Hb _ _ _ _
 obtain⟨g,k1,k2⟩:=key _ rfl
 refine⟨g,aR ?_,k2⟩
 rw[Ul,←k1]
 unfold jf nQ
 by_cases h0:x.kind=0
 ·rw[h0];rfl
 by_cases h1:x.kind=1
 ·rw[h1];simp
 by_cases h2:x.kind=2
 ·rw[h2];simp
 by_cases h3:x.text=[]
 ·simp[h0,h1,h2,h3]
 ·simp[h0,h1,h2,h3]
theorem cO (e:List Nd)(i:Nat):bm (aS e) (i:Int)=(e[i]?).map Nd.cv:=by
 rw[fD]
 simp[aS]
theorem bY {β:Type}{x:Nd}{k:Int→Int→List UInt8→List CV→Option β}:eS (LV.cv x.cv) k=k x.kind x.typ x.text (a8 x.args):=rfl
theorem oa (ts:List T)(i:Nat)(x:Nd):dS ts i x=if dX x=false then 15 else if f7 x=false then 10 else lR ts i x:=rfl
theorem WT {ts:List T}{e:List Nd}{x:Nd}(hx:e[ts.length]? =some x)(hf:i6 ts)(hi:ts.length≤1000000)(hs:x.text.length≤200000)(hl:x.args.length≤100000):
  ∃g,(ev E).call 67 [LV.cv (CV.sl (aS e)),LV.int .i64 (ts.length:Int),LV.cv (CV.sl (a8 (dx ts)))] μ=some (.ret (.ltup [LV.int .i64 g,LV.int .i64 (dS ts ts.length x)]) μ)∧
   (dS ts ts.length x=0→fk ts x.args.reverse ts.length=some g):=by
 rw[oa]
 have eag:cU (LV.cv (CV.agg ei))=some ei:=rfl
 have hk:(decide (0≤x.kind)&&decide (x.kind≤24))=dX x:=rfl
 cases hkb:dX x with
 |false=>
  refine⟨0,aJ ?_,fun h=>by simp at h⟩
  rw[Rp,cO,hx,Option.map_some,aa,bY,vz,hk,hkb]
  rfl
 |true=>
  have hkk:=hkb
  unfold dX at hkk
  simp only[Bool.and_eq_true,decide_eq_true_eq]at hkk
  have hsh:= @jS
  have hll:(decide (kW x.kind≤(x.args.length:Int))&&decide ((x.args.length:Int)≤f9 x.kind))=f7 x:=rfl
  cases hlb:f7 x with
  |false=>
   have hG:Kr (ev E) (ts.length:Int) (a8 (dx ts)) x.kind x.typ x.text (a8 x.args) μ=some (nF 0 10 μ):=by
    refine aR ?_
    rw[JX,oY,ad,eag,aa,jS hkk.1 (by omega),ce,vz,hll,hlb]
    rfl
   refine⟨0,aJ ?_,fun h=>by simp at h⟩
   rw[Rp,cO,hx,Option.map_some,aa,bY,vz,hk,hkb]
   simp only[ad,ao,aa,ak,am,ah,ae,aj,aA,cond_true,cond_false,Bool.not_true,Bool.not_false,av,au,aq]
   rw[hG,aa]
   exact ze _ _ _ _
  |true=>
   obtain⟨g,k1,k2⟩:=UJ (μ:=μ) (x:=x) hf hi hs hl
   have hG:Kr (ev E) (ts.length:Int) (a8 (dx ts)) x.kind x.typ x.text (a8 x.args) μ=some (nF g (lR ts ts.length x) μ):=by
    refine aR ?_
    rw[JX,oY,ad,eag,aa,jS hkk.1 (by omega),ce,vz,hll,hlb]
    simp only[ad,ao,aa,ak,am,ah,ae,aj,aA,cond_true,cond_false,Bool.not_true,Bool.not_false,av,au,aq]
    rw[k1,aa]
    exact LM _ _ _ _
   refine⟨g,aJ ?_,fun h=>k2 (by simpa using h)⟩
   rw[Rp,cO,hx,Option.map_some,aa,bY,vz,hk,hkb]
   simp only[ad,ao,aa,ak,am,ah,ae,aj,aA,cond_true,cond_false,Bool.not_true,Bool.not_false,av,au,aq]
   rw[hG,aa]
   exact ze _ _ _ _
end
end Go.Abs
set_option linter.unusedVariables false
set_option linter.unusedSimpArgs false
set_option maxRecDepth 100000
namespace Go.Abs
open Go Go.Proofs
section
variable {μ:Mu}
theorem iM {sz:Nat}{xs ys:List CV}(h1:xs.length+ys.length≤1000000)(h2:cS sz xs=true)(h3:cS sz ys=true):dQ sz xs ys=true:=by
 unfold dQ
 rw[h2,h3]
 simp[bC];omega
theorem Qo (ts:List T)(n:Nat):bm (ts.map T.cv) (n:Int)=(ts[n]?).map T.cv:=by
 rw[fD,List.getElem?_map]
def Vc (i:Nat)(x:Nd):Prop:= ∀a∈x.args,a= -1∨(0≤a∧a<i)
theorem iR {i:Nat}{x:Nd}(h:gE i x=true):Vc i x:=by
 intro a ha
 unfold gE at h
 have:=List.all_eq_true.1 h a ha
 unfold jn at this
 simp only[Bool.or_eq_true,Bool.and_eq_true,decide_eq_true_eq]at this
 omega
theorem Aa {ts:List T}{a:Int}(h:a= -1∨(0≤a∧a<ts.length))(hne:a≠ -1): ∃t,ts[a.toNat]? =some t∧bI ts a=some t:=by
 have h2:a.toNat<ts.length:=by omega
 refine⟨ts[a.toNat],List.getElem?_eq_getElem h2,?_⟩
 unfold bI
 rw[if_neg hne,List.getElem?_eq_getElem h2]
theorem Pb {x0 x4 x23 x50:List CV}{x6 x8 x24 x25 p0 p1 q0 q1:Int}{p2 q2:List UInt8}{p3:List CV}{ts:List T}{l:List Int}(hl:l.length≤1000)(hin: ∀a∈l,a= -1∨(0≤a∧a<ts.length)): ∀(m n:Nat),n+m=l.length→
  xU (ev E) x0 x4 (ts.map T.cv) x6 x8 x23 x24 x25 (a8 l) (l.length:Int) (n:Int) p0 p1 p2 p3 q0 q1 q2 (bA ((l.take n).map (bI ts))) μ=some (tF x0 x4 (ts.map T.cv) x6 x8 x23 x24 x25 q0 q1 q2 (bA (l.map (bI ts))) μ):=by
 intro m
 induction m with
 |zero=>
  intro n hn
  refine aW ?_
  rw[EA,cw (by omega),cond_false,List.take_of_length_le (by omega)]
 |succ m ih=>
  intro n hn
  have hlt:n<l.length:=by omega
  have hnext:bA ((l.take (n+1)).map (bI ts))=bA ((l.take n).map (bI ts))++[gy (bI ts l[n])]:=by
   rw[List.take_succ_eq_append_getElem hlt,List.map_append,yg,List.map_cons,List.map_nil,bA,bA]
  have hsz:=qW ((l.take n).map (bI ts))
  have hlen:(bA ((l.take n).map (bI ts))).length≤1000:=by rw[kD];simp;omega
  refine aW ?_
  rw[EA,cj hlt,cond_true,eC,List.getElem?_eq_getElem hlt,Option.map_some,aa,cQ,aa,bM (by omega)]
  by_cases ha:l[n]= -1
  ·have he:gy (bI ts l[n])=CV.v (.pointer none):=by
    unfold bI;rw[if_pos ha,kC]
   rw[decide_eq_true ha,cond_true,iM (by simp only[List.length_cons,List.length_nil];omega) hsz (by rfl),aA,←he,←hnext]
   exact ih (n+1) (by omega)
  ·obtain⟨t,h1,h2⟩:=Aa (hin _ (List.getElem_mem hlt)) ha
   have hr:=hin _ (List.getElem_mem hlt)
   have hcast:((l[n].toNat:Nat):Int)=l[n]:=by omega
   have hs:bm (ts.map T.cv) l[n]=some t.cv:=by rw[←hcast,Qo,h1];rfl
   have he:gy (bI ts l[n])=t.cv:=by rw[h2,fU]
   have hhd:fZ [t.cv]=true:=by simp[fZ,Ch]
   rw[decide_eq_false ha,cond_false,hs,aa,qi,aA,aA,Ch,hhd,iM (by simp only[List.length_cons,List.length_nil];omega) hsz (by simp[cS,p5])]
   simp only[Bool.and_true,aA]
   rw[←he,←hnext]
   exact ih (n+1) (by omega)
structure Good (e:List Nd) (ts:List T):Prop where
 len:ts.length≤e.length
 first:i6 ts
 each: ∀j t,ts[j]? =some t→ ∃x,e[j]? =some x∧t=mkT (ts.take j) x∧dS (ts.take j) j x=0∧ff t=0
theorem Good.nil (e:List Nd):Good e []:=⟨by simp,fun j t h=>by simp at h,fun j t h=>by simp at h⟩
theorem Good.step {e:List Nd}{ts:List T}(g:Good e ts){x:Nd}(hx:e[ts.length]? =some x)(h:cC ts x=0):Good e (ts++[mkT ts x]):=by
 obtain⟨h1,h2⟩:=MB h
 have hlt:ts.length<e.length:=(List.getElem?_eq_some_iff.1 hx).1
 refine⟨by simp;omega,g.first.step h1,fun j t hj=> ?_⟩
 by_cases hlj:j<ts.length
 ·rw[List.getElem?_append_left hlj]at hj
  obtain⟨y,k1,k2,k3,k4⟩:=g.each j t hj
  have:(ts++[mkT ts x]).take j=ts.take j:=by rw[List.take_append_of_le_length (by omega)]
  rw[this]
  exact⟨y,k1,k2,k3,k4⟩
 ·have hj2:j=ts.length:=by
   have:=(List.getElem?_eq_some_iff.1 hj).1
   simp at this
   omega
  subst hj2
  rw[List.getElem?_append_right (Nat.le_refl _)]at hj
  simp only[Nat.sub_self,List.getElem?_cons_zero,Option.some.injEq]at hj
  subst hj
  have:(ts++[mkT ts x]).take ts.length=ts:=by simp
  rw[this]
  exact⟨x,hx,rfl,h1,h2⟩
theorem Good.kind {e:List Nd}{ts:List T}(g:Good e ts){j:Nat}{t:T}(h:ts[j]? =some t):0≤t.kind∧t.kind<25:=by
 obtain⟨x,h1,h2,h3,h4⟩:=g.each j t h
 have:=(gb h3).1
 unfold dX at this
 simp only[Bool.and_eq_true,decide_eq_true_eq]at this
 rw[h2]
 show 0≤x.kind∧x.kind<25
 omega
theorem Good.sign {e:List Nd}{ts:List T}(g:Good e ts){j:Nat}{t:T}(h:ts[j]? =some t)(hk:t.kind=6∨t.kind=7){y:Option T}(hy:y∈t.args): ∃u,y=some u:=by
 obtain⟨x,h1,h2,h3,h4⟩:=g.each j t h
 obtain⟨a1,a2,a3,a4,_,_⟩:=gb h3
 have hkx:x.kind=6∨x.kind=7:=by rw[h2]at hk;exact hk
 rw[h2]at hy
 simp only[mkT,T.args,List.mem_map]at hy
 obtain⟨a,ha,rfl⟩:=hy
 have hin:=iR a4 a ha
 have hne:a≠ -1:=by
  intro e
  have:=List.all_eq_true.1 a4 a ha
  unfold jn at this
  simp only[Bool.or_eq_true,Bool.and_eq_true,decide_eq_true_eq]at this
  omega
 have hlt:j<ts.length:=(List.getElem?_eq_some_iff.1 h).1
 obtain⟨u,_,hu⟩:=Aa (ts:=ts.take j) (a:=a) (by rw[List.length_take];omega) hne
 exact⟨u,hu⟩
theorem Tt {ts:List T}{x:Nd}{u:T}(hu:some u∈(mkT ts x).args): ∃j:Nat,ts[j]? =some u:=by
 simp only[mkT,T.args,List.mem_map]at hu
 obtain⟨a,_,ha⟩:=hu
 unfold bI at ha
 split at ha
 ·cases ha
 ·exact⟨_,ha⟩
theorem Q8 {e:List Nd}{ts:List T}(g:Good e ts){x:Nd}(h:dS ts ts.length x=0)(hl:x.args.length≤1000):(ev E).call 68 [LV.cv (mkT ts x).cv] μ=some (.ret (LV.int .i64 (ff (mkT ts x))) μ):=by
 obtain⟨a1,a2,a3,a4,_,_⟩:=gb h
 have hk:=a1
 unfold dX at hk
 simp only[Bool.and_eq_true,decide_eq_true_eq]at hk
 refine WU (by simp[mkT,T.args];omega) hk.1 (by show x.kind<25;omega) (fun u hu=> ?_) (fun h4 y hy=> ?_)
 ·obtain⟨j,hj⟩:=Tt hu
  exact g.kind hj
 ·have h4':x.kind=4:=h4
  have hy':=hy
  simp only[mkT,T.args,List.mem_map]at hy'
  obtain⟨a,ha,rfl⟩:=hy'
  have hin:=iR a4 a ha
  have hne:a≠ -1:=by
   intro e
   have:=List.all_eq_true.1 a4 a ha
   unfold jn at this
   simp only[Bool.or_eq_true,Bool.and_eq_true,decide_eq_true_eq]at this
   omega
  obtain⟨u,hu1,hu2⟩:=Aa (ts:=ts) hin hne
  exact⟨u,hu2,fun z hz hz2=>g.sign hu1 hz (by rw[hz2];simp)⟩
theorem OH (n:Int):a8 [n]=[CV.int .i64 n]:=rfl
theorem Q6 (a b:List Int):a8 (a++b)=a8 a++a8 b:=by simp[a8]
theorem xe: ∀(l:List Int),cS 1 (a8 l)=true
 |[]=>rfl
 |n::r=>by
  have e:a8 (n::r)=CV.int .i64 n::a8 r:=rfl
  rw[e]
  simp only[cS]
  rw[show df 1 (CV.int .i64 n)=true from rfl]
  exact xe r
theorem Rf {e:List Nd}(he:e.length≤200)(htx: ∀x∈e,x.text.length≤200000∧x.args.length≤1000): ∀(m:Nat) (ts:List T),Good e ts→ts.length+m=e.length→
  KG (ev E) (aS e) (a8 (dx ts)) (ts.map T.cv) (aS e) (e.length : Int) (ts.length : Int) μ = some (match gw (e.drop ts.length) ts with
   | .inl q=>qT q.1 q.2 μ
   | .inr us=>wW (aS e) (a8 (dx us)) μ):=by
 intro m
 induction m with
 |zero=>
  intro ts g hn
  refine aW ?_
  rw[J1,cw (by omega),cond_false,List.drop_eq_nil_of_le (by omega)]
  rfl
 |succ m ih=>
  intro ts g hn
  have hlt:ts.length<e.length:=by omega
  have hx:e[ts.length]? =some e[ts.length]:=List.getElem?_eq_getElem hlt
  have hd:e.drop ts.length=e[ts.length]::e.drop (ts.length+1):=List.drop_eq_getElem_cons hlt
  revert hx hd
  generalize hxe:e[ts.length]=x
  intro hx hd
  obtain⟨hs,hal⟩:=htx x (by rw[←hxe];exact List.getElem_mem hlt)
  obtain⟨gg,k1,k2⟩:=WT (μ:=μ) hx g.first (by omega) hs (by omega)
  refine aW ?_
  rw[J1,cj hlt,cond_true,cO,hx,Option.map_some,aa,bY,k1]
  simp only[ad,ao,aa,ak,am,ah,ae,aj,aA,cond_true,cond_false,Bool.not_true,Bool.not_false,av,au,aq]
  rw[hd,gw]
  by_cases hA:dS ts ts.length x=0
  ·have hst:cC ts x=ff (mkT ts x):=by unfold cC;rw[if_neg (by simpa using hA)]
   rw[hst]
   rw[show decide (dS ts ts.length x=0)=true by simp[hA]]
   simp only[Bool.not_true,cond_false]
   obtain⟨a1,a2,a3,a4,_,_⟩:=gb hA
   have h15:=Pb (μ:=μ) (x0:=aS e) (x4:=a8 (dx ts)) (x23:=aS e) (x50:=[]) (x6:=(ts.length:Int)) (x8:=gg) (x24:=(e.length:Int)) (x25:=(ts.length:Int)) (p0:=x.kind) (p1:=x.typ) (p2:=x.text) (p3:=a8 x.args) (q0:=x.kind) (q1:=x.typ) (q2:=x.text) (ts:=ts) (l:=x.args) hal (iR a4) x.args.length 0 (by omega)
   have e0:((0:Nat):Int)=0:=rfl
   have en:bA (([]:List Int).map (bI ts))=[]:=by rw[List.map_nil,bA]
   rw[e0,List.take_zero,en]at h15
   have hcv:(mkT ts x).cv=CV.view [CV.int .i64 x.kind,CV.int .i64 x.typ,CV.str x.text,CV.sl (bA (x.args.map (bI ts)))]:=nB _
   have h68:=Q8 (μ:=μ) g hA hal
   rw[hcv]at h68
   have hG24:MZ (ev E) (aS e) (a8 (dx ts)) (ts.map T.cv) gg x.kind x.typ x.text (bA (x.args.map (bI ts))) (aS e) (e.length:Int) (ts.length:Int) μ=
     some (tc (aS e) (a8 (dx ts)++[CV.int .i64 gg]) (ts.map T.cv++[(mkT ts x).cv]) (aS e) (e.length:Int) (ts.length:Int) μ):=by
    refine aR ?_
    rw[RP,iM (by rw[ce,pk];simp;omega) (xe _) (by rfl),aA,←hcv,iM (by simp;omega) (vP _) (by simp[cS,p5]),aA]
   have hG13:MY (ev E) (aS e) (a8 (dx ts)) (ts.map T.cv) (ts.length:Int) gg (aS e) (e.length:Int) (ts.length:Int) x.kind x.typ x.text (a8 x.args) μ=
     some (if ff (mkT ts x)=0 then ta (aS e) (a8 (dx ts)++[CV.int .i64 gg]) (ts.map T.cv++[(mkT ts x).cv]) (aS e) (e.length:Int) (ts.length:Int) μ else s8 (ts.length:Int) (ff (mkT ts x)) μ):=by
    refine aR ?_
    rw[RO,ce,h15,aa,HE,h68]
    simp only[ad,ao,aa,ak,am,ah,ae,aj,aA,cond_true,cond_false,Bool.not_true,Bool.not_false,av,au,aq]
    by_cases h0:ff (mkT ts x)=0
    ·rw[show decide (ff (mkT ts x)=0)=true by simp[h0],if_pos h0]
     simp only[Bool.not_true,cond_false]
     rw[hG24,aa]
     exact G8 _ _ _ _ _ _ _ _
    ·rw[show decide (ff (mkT ts x)=0)=false by simp[h0],if_neg h0]
     rfl
   rw[hG13,aa]
   by_cases h0:ff (mkT ts x)=0
   ·rw[if_pos h0,if_neg (by simp[h0]),G7,bM (by omega)]
    have hst:cC ts x=0:=by rw[hst];exact h0
    have hf1:a8 (dx ts)++[CV.int .i64 gg]=a8 (dx (ts++[mkT ts x])):=by
     rw[Q3,Q6,DS (k2 hA),OH]
    have hf2:ts.map T.cv++[(mkT ts x).cv]=(ts++[mkT ts x]).map T.cv:=by simp
    rw[hf1,hf2]
    have:=ih (ts++[mkT ts x]) (g.step hx hst) (by simp;omega)
    rw[show (ts++[mkT ts x]).length=ts.length+1 by simp]at this
    exact this
   ·rw[if_neg h0,if_pos (show ff (mkT ts x)≠0 from h0)]
    exact G6 _ _ _ _
  ·rw[show decide (dS ts ts.length x=0)=false by simp[hA]]
   simp only[Bool.not_false,cond_true]
   have hst:cC ts x=dS ts ts.length x:=by unfold cC;rw[if_pos hA]
   rw[hst,if_pos (show dS ts ts.length x≠0 from hA)]
theorem o9 {e:List Nd}: ∀(m:Nat) (ts us:List T),Good e ts→ts.length+m=e.length→gw (e.drop ts.length) ts= .inr us→Good e us∧us.length=e.length
 |0,ts,us,g,hn,h=>by
  rw[List.drop_eq_nil_of_le (by omega),gw]at h
  injection h with h
  subst h
  exact⟨g,by omega⟩
 |m+1,ts,us,g,hn,h=>by
  have hlt:ts.length<e.length:=by omega
  rw[List.drop_eq_getElem_cons hlt,gw]at h
  split at h
  ·cases h
  ·rename_i h0
   have h0:cC ts e[ts.length]=0:=by simpa using h0
   refine o9 m _ us (g.step (List.getElem?_eq_getElem hlt) h0) (by simp;omega) ?_
   rw[show (ts++[mkT ts e[ts.length]]).length=ts.length+1 by simp]
   exact h
theorem S2 {e:List Nd}(htx: ∀x∈e,x.text.length≤200000∧x.args.length≤1000)(hle:e.length≤100000):(ev E).call 33 [LV.cv (CV.sl (aS e))] μ=some (.ret (.ltup [LV.int .i64 (du e).1,LV.int .i64 (du e).2]) μ):=by
 refine aJ ?_
 have hlen:(aS e).length=e.length:=by simp[aS]
 rw[Y7,hlen]
 unfold du
 by_cases h0:e=[]
 ·subst h0;rfl
 have h0':e.length≠0:=fun h=>h0 (List.length_eq_zero_iff.1 h)
 rw[show decide ((e.length:Int)=0)=false by simp[h0],cond_false,if_neg h0]
 by_cases h1:120<e.length
 ·rw[show decide ((120:Int)<(e.length:Int))=true by simp;omega,cond_true,if_pos h1]
 rw[show decide ((120:Int)<(e.length:Int))=false by simp;omega,cond_false,if_neg h1]
 have hL:=Rf (μ:=μ) (e:=e) (by omega) htx e.length [] (Good.nil e) (by simp)
 have hG:SJ (ev E) (aS e) μ=some (lp (match gw e []with| .inl q=>q| .inr ts=>pj e ts).1 (match gw e []with| .inl q=>q| .inr ts=>pj e ts).2 μ):=by
  refine aR ?_
  rw[Uf,hlen]
  have e1:dx []=[]:=rfl
  have e2:a8 []=[]:=rfl
  rw[e1,e2,List.map_nil,List.length_nil,List.drop_zero]at hL
  have e3:((0:Nat):Int)=0:=rfl
  rw[e3]at hL
  rw[hL,aa]
  cases hr:gw e []with
  |inl q=>exact L1 _ _ _ _
  |inr us=>
   dsimp only
   obtain⟨g,hul⟩:=o9 e.length [] us (Good.nil e) (by simp) (by simpa using hr)
   have hlt:e.length-1<e.length:=by omega
   have hcast:(e.length:Int) -1=((e.length-1:Nat):Int):=by omega
   rw[L3,hlen,bB (by omega) (by omega),hcast,cO,List.getElem?_eq_getElem hlt,Option.map_some,aa,bY]
   have hlast:e.getLast?=some e[e.length-1]:=by rw[List.getLast?_eq_getElem?,List.getElem?_eq_getElem hlt]
   unfold pj
   rw[hlast]
   dsimp only
   by_cases h3:e[e.length-1].kind=3
   ·rw[decide_eq_true h3,cond_true,if_pos (.inl h3),hcast]
   ·have hsl:bm (a8 (dx us)) ((e.length-1:Nat):Int)=some (CV.int .i64 (dW us (e.length-1))):=by
     rw[eC,xl]
     unfold dW
     rw[List.getElem?_eq_getElem (by omega)]
     rfl
    rw[decide_eq_false h3,cond_false,hsl,aa,cQ,aa]
    by_cases h4:dW us (e.length-1)=0
    ·rw[show decide (dW us (e.length-1)=0)=true by simp[h4],if_neg (by simp[h3,h4])]
     rfl
    ·rw[show decide (dW us (e.length-1)=0)=false by simp[h4],if_pos (.inr h4),hcast]
     rfl
 rw[hG,aa]
 exact LE _ _ _ _
end
end Go.Abs
set_option linter.unusedVariables false
set_option linter.unusedSimpArgs false
set_option maxRecDepth 100000
namespace Go.Abs
open Go Go.Proofs
section
variable {μ:Mu}{e:List Nd}{ts:List T}
theorem Good.arg {j:Nat}{t:T}{x:Nd}(g:Good e ts)(h:ts[j]? =some t)(hx:e[j]? =some x):t=mkT (ts.take j) x∧dS (ts.take j) j x=0∧ff t=0:=by
 obtain⟨y,h1,h2,h3,h4⟩:=g.each j t h
 rw[hx]at h1
 injection h1 with h1
 subst h1
 exact⟨h2,h3,h4⟩
theorem lL {a:Int}(h0:0≤a)(h1:a<ts.length): ∃t,ts[a.toNat]? =some t∧bI ts a=some t∧szT ts a=t.size:=by
 have h2:a.toNat<ts.length:=by omega
 refine⟨ts[a.toNat],List.getElem?_eq_getElem h2,?_,?_⟩
 ·unfold bI
  rw[if_neg (by omega),List.getElem?_eq_getElem h2]
 ·unfold szT
  rw[List.getElem?_eq_getElem h2]
theorem zy {l:List (Option T)}{n:Nat}(h:n<l.length):sizeA (l.drop n)=iE l[n]+sizeA (l.drop (n+1)):=by
 rw[List.drop_eq_getElem_cons h,sizeA]
theorem Lg (g:Good e ts)(htx: ∀x∈e,x.args.length≤1000)(hlen:ts.length≤1000): ∀(b j:Nat),j<b→ ∀t,ts[j]? =some t→(ev E).call 71 [LV.cv (CV.sl (aS e)),LV.int .i64 (j:Int)] μ=some (.ret (LV.int .i64 (t.size:Int)) μ)
 |0,j,hj,t,ht=>by omega
 |b+1,j,hj,t,ht=>by
  have hjl:j<ts.length:=(List.getElem?_eq_some_iff.1 ht).1
  have hje:j<e.length:=Nat.lt_of_lt_of_le hjl g.len
  obtain⟨x,hx⟩: ∃x,e[j]? =some x:=⟨_,List.getElem?_eq_getElem hje⟩
  obtain⟨h1,h2,_⟩:=g.arg ht hx
  obtain⟨_,_,_,a4,_,_⟩:=gb h2
  have hin:=iR a4
  have hal:=htx x (List.mem_of_getElem? hx)
  have hsz:=(g.first j t ht).2
  have hta:t.args=x.args.map (bI (ts.take j)):=by rw[h1];rfl
  have htot:t.size=1+sizeA t.args:=by cases t;rw[T.size];rfl
  have loop: ∀(m n:Nat) (v:Int),n+m=x.args.length→v=1+(sizeA t.args:Int) -(sizeA (t.args.drop n):Int)→
    B4 (ev E) (aS e) (j:Int) v (n:Int) μ=some (xb (t.size:Int) μ):=by
   intro m
   induction m with
   |zero=>
    intro n v hn hv
    have hd:t.args.drop n=[]:=by rw[List.drop_eq_nil_of_le];rw[hta];simp;omega
    rw[hd,sizeA]at hv
    refine aW ?_
    rw[J8,cO,hx,Option.map_some,aa,bY,ce,cw (by omega),cond_false]
    congr 2
    omega
   |succ m ih=>
    intro n v hn hv
    have hlt:n<x.args.length:=by omega
    have hlt2:n<t.args.length:=by rw[hta];simpa using hlt
    have hget:t.args[n]=bI (ts.take j) x.args[n]:=by simp[hta]
    have hdr:=zy hlt2
    have hmem:x.args[n]∈x.args:=List.getElem_mem hlt
    have hle: ∀n,sizeA (t.args.drop n)≤sizeA t.args:=by
     intro n
     induction n with
     |zero=>simp
     |succ n ihn=>
      by_cases h:n<t.args.length
      ·have:=zy h;omega
      ·have e1:t.args.drop (n+1)=[]:=List.drop_eq_nil_of_le (by omega)
       rw[e1,sizeA];omega
    have hle1:=hle n
    refine aW ?_
    rw[J8,cO,hx,Option.map_some,aa,bY,ce,cj hlt,cond_true,aa,bY,eC,List.getElem?_eq_getElem hlt,Option.map_some,aa,cQ,aa,bM (by omega)]
    by_cases ha:x.args[n]= -1
    ·have hz:iE t.args[n]=0:=by rw[hget];unfold bI;rw[if_pos ha,iE]
     rw[show decide (x.args[n]= -1)=true by simp[ha]]
     simp only[Bool.not_true,cond_false]
     exact ih (n+1) v (by omega) (by rw[hv];omega)
    ·rw[show decide (x.args[n]= -1)=false by simp[ha]]
     simp only[Bool.not_false,cond_true]
     have hr:=hin _ hmem
     have hr0:0≤x.args[n]∧x.args[n]<j:=by omega
     obtain⟨u,hu1,hu2,_⟩:=lL (ts:=ts.take j) hr0.1 (by rw[List.length_take];omega)
     have hu3:ts[x.args[n].toNat]? =some u:=by
      rw[List.getElem?_take,if_pos (by omega)]at hu1
      exact hu1
     have hrec:=Lg g htx hlen b x.args[n].toNat (by omega) u hu3
     rw[show ((x.args[n].toNat:Nat):Int)=x.args[n]by omega]at hrec
     have hz:iE t.args[n]=u.size:=by rw[hget,hu2,iE]
     rw[hrec]
     simp only[ad,ao,aa,ak,am,ah,ae,aj,aA,cond_true,cond_false,Bool.not_true,Bool.not_false,av,au,aq]
     rw[bB (by omega) (by omega)]
     exact ih (n+1) _ (by omega) (by rw[hv];omega)
  refine aJ ?_
  have:=loop x.args.length 0 1 (by omega) (by rw[List.drop_zero];omega)
  have e0:((0:Nat):Int)=0:=rfl
  rw[e0]at this
  rw[Zj,this,aa]
  exact Mf _ _ _
theorem WY (g:Good e ts){j:Nat}{t:T}(ht:ts[j]? =some t):(ev E).call 79 [LV.cv (CV.sl (aS e)),LV.int .i64 (j:Int)] μ=some (.ret (LV.bool (ee t)) μ):=by
 have hjl:j<ts.length:=(List.getElem?_eq_some_iff.1 ht).1
 have hje:j<e.length:=Nat.lt_of_lt_of_le hjl g.len
 obtain⟨x,hx⟩: ∃x,e[j]? =some x:=⟨_,List.getElem?_eq_getElem hje⟩
 obtain⟨h1,h2,_⟩:=g.arg ht hx
 obtain⟨a1,a2,_,a4,_,_⟩:=gb h2
 have seg: ∀(i:Nat) (u:T),ts[i]? =some u→opt (xQ (ev E) (aS e) (i:Int) μ) (kB (ev E) 79 H79 [])=some (.ret (LV.bool (decide (u.kind=0)&&oW u.typ)) μ):=by
  intro i u hu
  have hil:i<ts.length:=(List.getElem?_eq_some_iff.1 hu).1
  have hie:i<e.length:=Nat.lt_of_lt_of_le hil g.len
  obtain⟨y,hy⟩: ∃y,e[i]? =some y:=⟨_,List.getElem?_eq_getElem hie⟩
  obtain⟨k1,_,_⟩:=g.arg hu hy
  have ek:u.kind=y.kind:=by rw[k1];rfl
  have et:u.typ=y.typ:=by rw[k1];rfl
  have hG:xQ (ev E) (aS e) (i:Int) μ=some (qP (decide (u.kind=0)&&oW u.typ) μ):=by
   refine aR ?_
   rw[Uo,cO,hy,Option.map_some,aa,bY,←ek]
   by_cases h0:u.kind=0
   ·rw[decide_eq_true h0,cond_true,aa,bY,kV,←et]
    simp only[ad,ao,aa,ak,am,ah,ae,aj,aA,cond_true,cond_false,Bool.not_true,Bool.not_false,av,au,aq]
    unfold oW
    congr 1
    congr 1
    by_cases q0:u.typ=0
    ·simp[q0]
    by_cases q1:u.typ=1
    ·simp[q1]
    by_cases q2:u.typ=2
    ·simp[q2]
    simp[q0,q1,q2];omega
   ·rw[decide_eq_false h0,cond_false];rfl
  rw[hG,aa]
  exact LP _ _ _
 have ek:t.kind=x.kind:=by rw[h1];rfl
 have hta:t.args=x.args.map (bI (ts.take j)):=by rw[h1];rfl
 have hlen1:x.kind=6∨x.kind=7→x.args.length=1:=by
  intro h
  unfold f7 at a2
  simp only[Bool.and_eq_true,decide_eq_true_eq]at a2
  rcases h with h|h
  ·rw[h]at a2
   have e1:kW 6=1:=by decide
   have e2:f9 6=1:=by decide
   omega
  ·rw[h]at a2
   have e1:kW 7=1:=by decide
   have e2:f9 7=1:=by decide
   omega
 have sign:x.kind=6∨x.kind=7→ ∃a u,x.args=[a]∧0≤a∧ts[a.toNat]? =some u∧t.args=[some u]:=by
  intro h
  obtain⟨a,ha⟩:=List.length_eq_one_iff.1 (hlen1 h)
  have hin:=iR a4 a (by rw[ha];simp)
  have hne:a≠ -1:=by
   intro e
   have:=List.all_eq_true.1 a4 a (by rw[ha];simp)
   unfold jn at this
   simp only[Bool.or_eq_true,Bool.and_eq_true,decide_eq_true_eq]at this
   omega
  obtain⟨u,hu1,hu2,_⟩:=lL (ts:=ts.take j) (a:=a) (by omega) (by rw[List.length_take];omega)
  refine⟨a,u,ha,by omega,?_,by rw[hta,ha,List.map_cons,hu2];rfl⟩
  rw[List.getElem?_take,if_pos (by omega)]at hu1
  exact hu1
 refine aJ ?_
 rw[Zn,cO,hx,Option.map_some,aa,bY]
 by_cases h6:x.kind=6
 ·obtain⟨a,u,q1,q2,q3,q4⟩:=sign (.inl h6)
  have hs0:bm (a8 x.args) 0=some (CV.int .i64 a):=by rw[q1];rfl
  rw[decide_eq_true h6,cond_true,aa,bY,hs0,aa,cQ,aa]
  have:=seg a.toNat u q3
  rw[show ((a.toNat:Nat):Int)=a by omega]at this
  rw[this]
  unfold ee
  rw[q4,show decide (t.kind=6∨t.kind=7)=true by simp[ek,h6]]
 ·rw[decide_eq_false h6,cond_false,aa,bY]
  by_cases h7:x.kind=7
  ·obtain⟨a,u,q1,q2,q3,q4⟩:=sign (.inr h7)
   have hs0:bm (a8 x.args) 0=some (CV.int .i64 a):=by rw[q1];rfl
   rw[decide_eq_true h7,cond_true,aa,bY,hs0,aa,cQ,aa]
   have:=seg a.toNat u q3
   rw[show ((a.toNat:Nat):Int)=a by omega]at this
   rw[this]
   unfold ee
   rw[q4,show decide (t.kind=6∨t.kind=7)=true by simp[ek,h7]]
  ·rw[decide_eq_false h7,cond_false,seg j t ht]
   unfold ee
   rw[show decide (t.kind=6∨t.kind=7)=false by simp[ek,h6,h7]]
end
end Go.Abs
set_option linter.unusedVariables false
set_option linter.unusedSimpArgs false
set_option maxRecDepth 100000
namespace Go.Abs
open Go Go.Proofs
def rm (k:Int)(n:Nat):Option T→Bool
 |some t=> !da k n (lvl t.kind)
 |none=>false
def xB (k:Int):Nat→List (Option T)→Bool
 |_,[]=>false
 |n,x::r=>rm k n x||xB k (n+1) r
theorem Fe (k:Int)(n:Nat)(x:Option T)(r:List (Option T)):opE k n (x::r)=if k=4∧gP x=false then 13 else match x with
  |some t=>if da k n (lvl t.kind)=false then 9 else opE k (n+1) r
  |none=>opE k (n+1) r:=rfl
theorem uL (k:Int)(n:Nat)(x:Option T)(r:List (Option T)):xB k n (x::r)=(rm k n x||xB k (n+1) r):=rfl
theorem Ff: ∀(l:List (Option T)) (n:Nat),opE 4 n l=if l.any (fun x=> !gP x)=true then 13 else 0
 |[],n=>by simp[opE]
 |x::r,n=>by
  rw[Fe,List.any_cons]
  cases hx:gP x with
  |false=>simp
  |true=>
   rw[if_neg (by simp)]
   simp only[Bool.not_true,Bool.false_or]
   cases x with
   |none=>simp[gP]at hx
   |some t=>
    dsimp only
    rw[l9 (by omega) (by omega),if_neg (by simp)]
    exact Ff r (n+1)
theorem AA {k:Int}(hk:k≠4): ∀(l:List (Option T)) (n:Nat),opE k n l=if xB k n l=true then 9 else 0
 |[],n=>by simp[opE,xB]
 |x::r,n=>by
  rw[Fe,uL,if_neg (fun h=>hk h.1)]
  cases x with
  |none=>rw[show rm k n none=false from rfl];simp only[Bool.false_or];exact AA hk r (n+1)
  |some t=>
   rw[show rm k n (some t)= !da k n (lvl t.kind)from rfl]
   dsimp only
   cases da k n (lvl t.kind)with
   |true=>simp only[Bool.not_true,Bool.false_or,Bool.true_eq_false,if_false];exact AA hk r (n+1)
   |false=>simp
theorem Fh {k:Int}(h0:0≤k)(h1:k<6): ∀(l:List (Option T)) (n:Nat),xB k n l=false
 |[],n=>rfl
 |x::r,n=>by
  rw[uL,Fh h0 h1 r (n+1)]
  cases x with
  |none=>rfl
  |some t=>simp[rm,l9 h0 h1]
section
variable {μ:Mu}{e:List Nd}{ts:List T}
theorem Rj {xs:List CV}{i:Nat}{k ty:Int}{s:List UInt8}{l:List Int}(hi:i≤1000000)(hl:l.length≤100000): ∀(m n:Nat),n+m=l.length→
  B3 (ev E) xs (i:Int) (n:Int) k ty s (a8 l) μ=some (if(l.drop n).all (jn i k)=true then xa xs (i:Int) k ty s (a8 l) μ else qU 3 μ):=by
 intro m
 induction m with
 |zero=>
  intro n hn
  refine aW ?_
  rw[J7,ce,cw (by omega),cond_false,List.drop_eq_nil_of_le (by omega)]
  simp
 |succ m ih=>
  intro n hn
  have hlt:n<l.length:=by omega
  refine aW ?_
  rw[J7,ce,cj hlt,cond_true,eC,List.getElem?_eq_getElem hlt,Option.map_some,aa,cQ,aa,bB (by omega) (by omega),kV,bM (by omega),List.drop_eq_getElem_cons hlt,List.all_cons]
  simp only[ad,ao,aa,ak,am,ah,ae,aj,aA,cond_true,cond_false,Bool.not_true,Bool.not_false,av,au,aq]
  have ho:jn i k l[n]=((decide (0≤l[n])&&decide (l[n]≤(i:Int) -1))||(decide (l[n]= -1)&&decide (k=3))):=rfl
  rw[ho]
  cases (decide (0≤l[n])&&decide (l[n]≤(i:Int) -1))with
  |true=>
   simp only[Bool.not_true,cond_false,Bool.true_or,Bool.true_and]
   exact ih (n+1) (by omega)
  |false=>
   simp only[Bool.not_false,cond_true,Bool.false_or]
   cases decide (l[n]= -1)with
   |false=>simp
   |true=>
    simp only[Bool.not_true,cond_false,Bool.true_and]
    cases decide (k=3)with
    |false=>simp
    |true=>
     simp only[Bool.not_true,cond_false,Bool.true_and]
     exact ih (n+1) (by omega)
theorem Ph (g:Good e ts)(htx: ∀x∈e,x.args.length≤1000)(hlen:ts.length≤1000){k ty:Int}{s:List UInt8}{l:List Int}(hl:l.length≤100000): ∀(m:Nat) (at_:Int),m≤l.length→0≤at_→at_≤ts.length→
  xW (ev E) (aS e) at_ ((m:Int) -1) k ty s (a8 l) μ=some (match fk ts (l.take m).reverse at_ with|none=>tN 3 μ|some _=>tO (aS e) k ty s (a8 l) μ):=by
 intro m
 induction m with
 |zero=>
  intro at_ hm h0 h1
  refine aW ?_
  rw[EE,show decide ((0:Int)≤((0:Nat):Int) -1)=false by decide,cond_false]
  rfl
 |succ m ih=>
  intro at_ hm h0 h1
  have hlt:m<l.length:=by omega
  have hc:(((m+1:Nat):Int)) -1=(m:Int):=by omega
  have hrev:(l.take (m+1)).reverse=l[m]::(l.take m).reverse:=by rw[List.take_succ_eq_append_getElem hlt,List.reverse_append];rfl
  refine aW ?_
  rw[hc,EE,show decide ((0:Int)≤(m:Int))=true by simp,cond_true,eC,List.getElem?_eq_getElem hlt,Option.map_some,aa,cQ,aa,bB (x:=(m:Int) -1) (by omega) (by omega),bB (x:=at_-1) (by omega) (by omega),hrev,fk]
  by_cases ha:l[m]= -1
  ·rw[decide_eq_true ha,cond_true,if_pos ha]
   exact ih at_ (by omega) h0 h1
  ·rw[decide_eq_false ha,cond_false,if_neg ha]
   by_cases hb:l[m]=at_-1
   ·obtain⟨t,q1,q2,q3⟩:=lL (ts:=ts) (a:=l[m]) (by omega) (by omega)
    have h71:=Lg (μ:=μ) g htx hlen (l[m].toNat+1) l[m].toNat (by omega) t q1
    have hf:=g.first l[m].toNat t q1
    rw[show ((l[m].toNat:Nat):Int)=l[m]by omega]at h71
    rw[show decide (l[m]=at_-1)=true by simp[hb],if_pos hb,h71,q3]
    simp only[ad,ao,aa,ak,am,ah,ae,aj,aA,cond_true,cond_false,Bool.not_true,Bool.not_false,av,au,aq]
    rw[bB (by omega) (by omega)]
    exact ih _ (by omega) (by omega) (by omega)
   ·rw[show decide (l[m]=at_-1)=false by simp[hb],if_neg hb]
    rfl
theorem JK (g:Good e ts){a:Int}(h:a= -1∨(0≤a∧a<ts.length))(hne:a≠ -1): ∃t y,bI ts a=some t∧ts[a.toNat]? =some t∧bm (aS e) a=some (Nd.cv y)∧t.kind=y.kind:=by
 obtain⟨t,q1,q2,_⟩:=lL (ts:=ts) (a:=a) (by omega) (by omega)
 have hlt:a.toNat<ts.length:=by omega
 have hle:=g.len
 have hy:e[a.toNat]? =some e[a.toNat]:=List.getElem?_eq_getElem (by omega)
 obtain⟨k1,_,_⟩:=g.arg q1 hy
 refine⟨t,e[a.toNat],q2,q1,?_,by rw[k1];rfl⟩
 have:=cO e a.toNat
 rw[show ((a.toNat:Nat):Int)=a by omega]at this
 rw[this,hy]
 rfl
theorem Pi (g:Good e ts){k ty:Int}{s:List UInt8}{l:List Int}(hl:l.length≤100000)(hin: ∀a∈l,a= -1∨(0≤a∧a<ts.length)): ∀(m n:Nat),n+m=l.length→
  sA (ev E) (aS e) (n:Int) k ty s (a8 l) μ=some (if(!decide (k=2)&&((l.map (bI ts)).drop n).any isR)=true then tP 3 μ else tQ (aS e) k ty s (a8 l) μ):=by
 intro m
 induction m with
 |zero=>
  intro n hn
  refine aW ?_
  rw[EF,ce,cw (by omega),cond_false,List.drop_eq_nil_of_le (by simp;omega)]
  simp
 |succ m ih=>
  intro n hn
  have hlt:n<l.length:=by omega
  have hlt2:n<(l.map (bI ts)).length:=by simpa using hlt
  refine aW ?_
  rw[EF,ce,cj hlt,cond_true,eC,List.getElem?_eq_getElem hlt,Option.map_some,aa,cQ,aa,bM (by omega),List.drop_eq_getElem_cons hlt2,List.any_cons,List.getElem_map,ih (n+1) (by omega)]
  by_cases ha:l[n]= -1
  ·rw[show decide (l[n]= -1)=true by simp[ha]]
   have:isR (bI ts l[n])=false:=by unfold bI;rw[if_pos ha];rfl
   rw[this]
   simp only[Bool.not_true,cond_false,Bool.false_or]
  ·rw[show decide (l[n]= -1)=false by simp[ha]]
   obtain⟨t,y,q1,q2,q3,q4⟩:=JK g (hin _ (List.getElem_mem hlt)) ha
   rw[q1,q3]
   simp only[Bool.not_false,cond_true,aa,bY]
   rw[←q4,show isR (some t)=decide (t.kind=3)from rfl]
   by_cases h3:t.kind=3
   ·rw[decide_eq_true h3,cond_true]
    by_cases h2:k=2<;>simp[h2]
   ·rw[decide_eq_false h3,cond_false,Bool.false_or]
theorem Pj (g:Good e ts){k ty:Int}{s:List UInt8}{l:List Int}(hl:l.length≤100000)(hin:k=4→ ∀a∈l,0≤a∧a<ts.length): ∀(m n:Nat),n+m=l.length→
  xX (ev E) (aS e) (n:Int) k ty s (a8 l) μ=some (if(decide (k=4)&&((l.map (bI ts)).drop n).any (fun x=> !gP x))=true then tR 13 μ else tS (aS e) k ty s (a8 l) μ):=by
 intro m
 induction m with
 |zero=>
  intro n hn
  refine aW ?_
  rw[EG,ce,cw (by omega),cond_false,List.drop_eq_nil_of_le (by simp;omega)]
  simp
 |succ m ih=>
  intro n hn
  have hlt:n<l.length:=by omega
  have hlt2:n<(l.map (bI ts)).length:=by simpa using hlt
  refine aW ?_
  rw[EG,ce,cj hlt,cond_true,eC,List.getElem?_eq_getElem hlt,Option.map_some,aa,cQ,aa,bM (by omega),List.drop_eq_getElem_cons hlt2,List.any_cons,List.getElem_map,ih (n+1) (by omega)]
  by_cases h4:k=4
  ·have hr:=hin h4 _ (List.getElem_mem hlt)
   obtain⟨t,q1,q2,_⟩:=lL (ts:=ts) hr.1 hr.2
   have h79:=WY (μ:=μ) g q1
   rw[show ((l[n].toNat:Nat):Int)=l[n]by omega]at h79
   rw[decide_eq_true h4,cond_true,h79,q2]
   simp only[ad,ao,aa,ak,am,ah,ae,aj,aA,cond_true,cond_false,Bool.not_true,Bool.not_false,av,au,aq,Bool.true_and]
   rw[show gP (some t)=ee t from rfl]
   cases ee t with
   |false=>simp
   |true=>
    simp only[Bool.not_true,cond_false,Bool.false_or]
    have:=ih (n+1) (by omega)
    rw[decide_eq_true h4,Bool.true_and]at this
    exact this
  ·rw[decide_eq_false h4,cond_false]
   simp
theorem Pk (g:Good e ts){k ty:Int}{s:List UInt8}{l:List Int}(hk0:0≤k)(hk1:k<25)(hl:l.length≤1000)(hlm:(l.length:Int)≤f9 k)(hin: ∀a∈l,a= -1∨(0≤a∧a<ts.length))(hr:k≠2→ ∀a∈l,isR (bI ts a)=false): ∀(m n:Nat),n+m=l.length→
  sB (ev E) (aS e) (n:Int) k ty s (a8 l) μ=some (if xB k n ((l.map (bI ts)).drop n)=true then tT 9 μ else tU μ):=by
 intro m
 induction m with
 |zero=>
  intro n hn
  refine aW ?_
  rw[EH,ce,cw (by omega),cond_false,List.drop_eq_nil_of_le (by simp;omega)]
  rfl
 |succ m ih=>
  intro n hn
  have hlt:n<l.length:=by omega
  have hlt2:n<(l.map (bI ts)).length:=by simpa using hlt
  refine aW ?_
  rw[EH,ce,cj hlt,cond_true,eC,List.getElem?_eq_getElem hlt,Option.map_some,aa,cQ,aa,bM (by omega),List.drop_eq_getElem_cons hlt2,uL,List.getElem_map,ih (n+1) (by omega)]
  by_cases ha:l[n]= -1
  ·rw[show decide (l[n]= -1)=true by simp[ha]]
   have:bI ts l[n]=none:=by unfold bI;rw[if_pos ha]
   rw[this,show rm k n none=false from rfl]
   simp only[Bool.not_true,cond_false,Bool.false_or]
  ·rw[show decide (l[n]= -1)=false by simp[ha]]
   obtain⟨t,y,q1,q2,q3,q4⟩:=JK g (hin _ (List.getElem_mem hlt)) ha
   rw[q1,q3,show rm k n (some t)= !da k n (lvl t.kind)from rfl]
   simp only[Bool.not_false,cond_true]
   by_cases h6:6≤k
   ·have h3:t.kind≠3:=by
     have:=hr (by omega) _ (List.getElem_mem hlt)
     rw[q1]at this
     simpa[isR]using this
    obtain⟨k1,k2⟩:=g.kind q2
    rw[decide_eq_true h6,cond_true,aa,bY,←q4,Lf,JS k1 k2 h3]
    simp only[ad,ao,aa,ak,am,ah,ae,aj,aA,cond_true,cond_false,Bool.not_true,Bool.not_false,av,au,aq]
    rw[Vk (by omega)]
    simp only[ad,ao,aa,ak,am,ah,ae,aj,aA,cond_true,cond_false,Bool.not_true,Bool.not_false,av,au,aq]
    rw[Ro h6 hk1 (by omega),Bool.not_not]
    cases decide (lvl t.kind<vB k n)with
    |true=>simp
    |false=>
     simp only[cond_false,Bool.false_or]
     exact ih (n+1) (by omega)
   ·rw[decide_eq_false h6,cond_false,l9 hk0 (by omega)]
    simp only[Bool.not_true,Bool.false_or]
theorem Sv (g:Good e ts){x:Nd}(hA:dS ts ts.length x=0)(hal:x.args.length≤1000):M3 (ev E) (aS e) x.kind x.typ x.text (a8 x.args) μ=some (j2 (ff (mkT ts x)) μ):=by
 obtain⟨a1,a2,_,a4,_,_⟩:=gb hA
 have hin:=iR a4
 have hk:=a1
 unfold dX at hk
 unfold f7 at a2
 simp only[Bool.and_eq_true,decide_eq_true_eq]at hk a2
 have e0:((0:Nat):Int)=0:=rfl
 have hkk:(mkT ts x).kind=x.kind:=rfl
 have haa:(mkT ts x).args=x.args.map (bI ts):=rfl
 have h1:=Pi (μ:=μ) g (k:=x.kind) (ty:=x.typ) (s:=x.text) (l:=x.args) (by omega) hin x.args.length 0 (by omega)
 rw[e0,List.drop_zero]at h1
 refine aR ?_
 rw[RW,h1,aa]
 have er:nr x.kind (x.args.map (bI ts))=(!decide (x.kind=2)&&(x.args.map (bI ts)).any isR):=by
  unfold nr
  congr 2
 unfold ff
 rw[hkk,haa,er]
 by_cases hR:(!decide (x.kind=2)&&(x.args.map (bI ts)).any isR)=true
 ·rw[if_pos hR,if_pos hR]
  exact HM _ _ _
 ·rw[if_neg hR,if_neg hR,HN]
  have hr:x.kind≠2→ ∀a∈x.args,isR (bI ts a)=false:=by
   intro h2 a ha
   rw[Bool.not_eq_true,Bool.and_eq_false_iff]at hR
   rcases hR with hR|hR
   ·simp[h2]at hR
   ·rw[List.any_eq_false]at hR
    have:=hR (bI ts a) (List.mem_map_of_mem ha)
    simpa using this
  have h2 := Pj (μ := μ) g (k := x.kind) (ty := x.typ) (s := x.text) (l := x.args) (by omega) (fun h4 a ha => by
   have:=List.all_eq_true.1 a4 a ha
   unfold jn at this
   simp only[Bool.or_eq_true,Bool.and_eq_true,decide_eq_true_eq]at this
   omega) x.args.length 0 (by omega)
  rw[e0,List.drop_zero]at h2
  rw[h2,aa]
  have h3:=Pk (μ:=μ) g (k:=x.kind) (ty:=x.typ) (s:=x.text) (l:=x.args) hk.1 (by omega) hal a2.2 hin hr x.args.length 0 (by omega)
  rw[e0,List.drop_zero]at h3
  by_cases h4:x.kind=4
  ·rw[h4,Ff,decide_eq_true rfl,Bool.true_and]
   split
   ·exact HO _ _ _
   ·rw[h4]at h3
    rw[wl,h3,aa,Fh (by omega) (by omega),if_neg (by simp)]
    exact wm _ _
  ·rw[AA h4,decide_eq_false h4,Bool.false_and,if_neg (by simp),wl,h3,aa]
   split
   ·exact HP _ _ _
   ·exact wm _ _
theorem Su (g:Good e ts){x:Nd}(hpre:(dX x=true∧f7 x=true∧jf x=true∧gE ts.length x=true∧ ∃v,fk ts x.args.reverse ts.length=some v))(hnm:(x.kind=1∨x.kind=2)→hP x.text=true)(hs:x.text.length≤200000)(hal:x.args.length≤1000):
  xP (ev E) (aS e) x.kind x.typ x.text (a8 x.args) μ=some (oH (cC ts x) μ):=by
 obtain⟨p1,p2,p3,p4,v,pv⟩:=hpre
 have hA:dS ts ts.length x=gR x:=by
  rw[oa,p1,p2,if_neg (by simp),if_neg (by simp)]
  unfold lR vq
  rw[p3,p4,pv]
  rfl
 refine aR ?_
 rw[RU]
 by_cases h0:x.kind=0
 ·have hc:gR x=gH x.typ x.text:=by
   unfold gR
   rw[if_neg (by omega),if_pos h0]
  have h122:=Vp (μ:=μ) (k:=x.typ) hs
  rw[←QR]at h122
  rw[decide_eq_true h0,cond_true,h122]
  simp only[ad,ao,aa,ak,am,ah,ae,aj,aA,cond_true,cond_false,Bool.not_true,Bool.not_false,av,au,aq]
  have hst:cC ts x=gH x.typ x.text:=by
   unfold cC
   rw[hA,hc]
   split
   ·rfl
   ·rename_i hz
    have hz:gH x.typ x.text=0:=by simpa using hz
    have hl:x.args=[]:=by
     unfold f7 at p2
     rw[h0]at p2
     simp only[Bool.and_eq_true,decide_eq_true_eq]at p2
     have e2:f9 0=0:=by decide
     exact List.length_eq_zero_iff.1 (by omega)
    unfold ff
    rw[show (mkT ts x).args=x.args.map (bI ts)from rfl,hl,hz]
    simp[nr,opE]
  rw[hst]
 ·have hz:dS ts ts.length x=0:=by
   rw[hA]
   unfold gR
   rw[if_neg (fun h=>by rw[hnm h.1]at h;simp at h),if_neg h0]
  have hst:cC ts x=ff (mkT ts x):=by unfold cC;rw[if_neg (by simpa using hz)]
  rw[decide_eq_false h0,cond_false,Sv g hz hal,aa,hst]
  exact He _ _ _
end
end Go.Abs
set_option linter.unusedVariables false
set_option linter.unusedSimpArgs false
set_option maxRecDepth 100000
namespace Go.Abs
open Go Go.Proofs
section
variable {μ:Mu}{e:List Nd}{ts:List T}
def m8 (ts:List T)(x:Nd):Int:=if gE ts.length x=false then 3 else if jf x=false then 3 else match fk ts x.args.reverse ts.length with
 |none=>3
 |some _=>if(x.kind=1∨x.kind=2)∧hP x.text=false then 4 else cC ts x
theorem QS {x:Nd}(p1:dX x=true)(p2:f7 x=true):m8 ts x=cC ts x:=by
 have hA:dS ts ts.length x=lR ts ts.length x:=by
  rw[oa,p1,p2,if_neg (by simp),if_neg (by simp)]
 unfold m8
 unfold lR vq at hA
 cases h3:gE ts.length x with
 |false=>
  rw[h3,Bool.and_false,if_pos rfl]at hA
  rw[if_pos rfl]
  unfold cC
  rw[if_pos (by rw[hA];decide),hA]
 |true=>
  rw[if_neg (by simp)]
  cases h4:jf x with
  |false=>
   rw[h4,Bool.false_and,if_pos rfl]at hA
   rw[if_pos rfl]
   unfold cC
   rw[if_pos (by rw[hA];decide),hA]
  |true=>
   rw[if_neg (by simp)]
   rw[h3,h4,if_neg (by simp)]at hA
   cases h5:fk ts x.args.reverse ts.length with
   |none=>
    rw[h5]at hA
    dsimp only at hA ⊢
    unfold cC
    rw[if_pos (by rw[hA];decide),hA]
   |some v=>
    rw[h5]at hA
    dsimp only at hA ⊢
    split
    ·rename_i hn
     unfold gR at hA
     rw[if_pos hn]at hA
     unfold cC
     rw[if_pos (by rw[hA];decide),hA]
    ·rfl
theorem Ss (g:Good e ts)(htx: ∀x∈e,x.args.length≤1000)(hlen:ts.length≤1000){x:Nd}(p1:dX x=true)(p2:f7 x=true)(p3:gE ts.length x=true)(p4:jf x=true)(hs:x.text.length≤200000)(hal:x.args.length≤1000):
  pH (ev E) (aS e) (ts.length:Int) x.kind x.typ x.text (a8 x.args) μ=some (j1 (m8 ts x) μ):=by
 have h:=Ph (μ:=μ) g htx hlen (k:=x.kind) (ty:=x.typ) (s:=x.text) (l:=x.args) (by omega) x.args.length (ts.length:Int) (Nat.le_refl _) (by omega) (by omega)
 rw[List.take_length]at h
 refine aR ?_
 rw[RT,ce,bB (by omega) (by omega),h,aa]
 unfold m8
 rw[p3,p4,if_neg (by simp),if_neg (by simp)]
 cases hv:fk ts x.args.reverse ts.length with
 |none=>exact HK _ _ _
 |some v=>
  dsimp only
  have h26:=fun hnm=>Su (μ:=μ) g (x:=x) ⟨p1,p2,p4,p3,v,hv⟩ hnm hs hal
  have h44:=WO (μ:=μ) hs
  rw[HL]
  by_cases h1:x.kind=1
  ·rw[decide_eq_true h1,cond_true,h44]
   simp only[ad,ao,aa,ak,am,ah,ae,aj,aA,cond_true,cond_false,Bool.not_true,Bool.not_false,av,au,aq]
   cases hc:hP x.text with
   |false=>rw[if_pos ⟨.inl h1,rfl⟩];rfl
   |true=>
    rw[if_neg (by simp)]
    simp only[Bool.not_true,cond_false]
    rw[h26 (fun _=>hc),aa]
    exact pr _ _ _
  ·rw[decide_eq_false h1,cond_false]
   by_cases h2:x.kind=2
   ·rw[decide_eq_true h2,cond_true,h44]
    simp only[ad,ao,aa,ak,am,ah,ae,aj,aA,cond_true,cond_false,Bool.not_true,Bool.not_false,av,au,aq]
    cases hc:hP x.text with
    |false=>rw[if_pos ⟨.inr h2,rfl⟩];rfl
    |true=>
     rw[if_neg (by simp)]
     simp only[Bool.not_true,cond_false]
     rw[h26 (fun _=>hc),aa]
     exact pr _ _ _
   ·rw[decide_eq_false h2,cond_false,if_neg (fun h=>h.1.elim h1 h2),h26 (fun h=>(h.elim h1 h2).elim),aa]
    exact pr _ _ _
theorem UK (g:Good e ts)(htx: ∀x∈e,x.args.length≤1000)(hlen:ts.length≤1000){x:Nd}(p1:dX x=true)(p2:f7 x=true)(hs:x.text.length≤200000)(hal:x.args.length≤1000):
  SR (ev E) (aS e) (ts.length:Int) x.kind x.typ x.text (a8 x.args) μ=some (gm (m8 ts x) μ):=by
 have h:=Rj (μ:=μ) (xs:=aS e) (i:=ts.length) (k:=x.kind) (ty:=x.typ) (s:=x.text) (l:=x.args) (by omega) (by omega) x.args.length 0 (by omega)
 have e0:((0:Nat):Int)=0:=rfl
 rw[e0,List.drop_zero]at h
 refine aR ?_
 rw[Un,h,aa]
 cases p3:gE ts.length x with
 |false=>
  have p3':x.args.all (jn ts.length x.kind)=false:=p3
  unfold m8
  rw[p3,p3',if_neg (by simp),if_pos rfl]
  exact Md _ _ _
 |true=>
  have p3':x.args.all (jn ts.length x.kind)=true:=p3
  rw[p3',if_pos rfl,Me]
  have key:jf x=true→(opt (pH (ev E) (aS e) (ts.length:Int) x.kind x.typ x.text (a8 x.args) μ) (kS (ev E) H70 [] [(4,0)]))=some (gm (m8 ts x) μ):=by
   intro p4
   rw[Ss g htx hlen p1 p2 p3 p4 hs hal,aa]
   exact Hd _ _ _
  have bad:jf x=false→some (gm (3:Int) μ)=some (gm (m8 ts x) μ):=by
   intro p4
   unfold m8
   rw[p3,p4,if_neg (by simp),if_pos rfl]
  rw[Vo]
  simp only[ad,ao,aa,ak,am,ah,ae,aj,aA,cond_true,cond_false,Bool.not_true,Bool.not_false,av,au,aq]
  unfold jf at key bad
  by_cases h0:x.kind=0
  ·have h3:nQ x.kind=true:=by simp[nQ,h0]
   have k0:=key (by rw[h3,decide_eq_true h0];rfl)
   rw[decide_eq_true h0,h3]
   simp only[Bool.not_true,cond_false]
   exact k0
  ·by_cases h1:x.typ=0<;>by_cases h2:x.text=[]<;>cases h3:nQ x.kind<;>simp only[h0,h1,h2,h3,decide_true,decide_false,Bool.not_true,Bool.not_false,cond_true,cond_false,Bool.or_true,Bool.true_or,Bool.or_false,Bool.false_or,Bool.and_true,Bool.true_and,Bool.and_false,Bool.false_and,forall_const,Bool.false_eq_true,Bool.true_eq_false,false_imp_iff]at key bad ⊢ <;>first|exact key|exact bad
theorem WV (g:Good e ts)(htx: ∀x∈e,x.text.length≤200000∧x.args.length≤1000)(hlen:ts.length≤1000){x:Nd}(hx:e[ts.length]? =some x):
  (ev E).call 70 [LV.cv (CV.sl (aS e)),LV.int .i64 (ts.length:Int)] μ=some (.ret (LV.int .i64 (cC ts x)) μ):=by
 obtain⟨hs,hal⟩:=htx x (List.mem_of_getElem? hx)
 have hk:(decide (0≤x.kind)&&decide (x.kind≤24))=dX x:=rfl
 refine aJ ?_
 rw[Zi,cO,hx,Option.map_some,aa,bY,kV,hk]
 simp only[ad,ao,aa,ak,am,ah,ae,aj,aA,cond_true,cond_false,Bool.not_true,Bool.not_false,av,au,aq]
 cases p1:dX x with
 |false=>
  have:cC ts x=15:=by
   have hA:dS ts ts.length x=15:=by rw[oa,p1,if_pos rfl]
   unfold cC
   rw[if_pos (by rw[hA];decide),hA]
  rw[this]
  rfl
 |true=>
  have hkk:=p1
  unfold dX at hkk
  simp only[Bool.and_eq_true,decide_eq_true_eq]at hkk
  obtain⟨q1,q2⟩:=UZ hkk.1 (show x.kind<25 by omega)
  have hll:(decide (kW x.kind≤(x.args.length:Int))&&decide ((x.args.length:Int)≤f9 x.kind))=f7 x:=rfl
  simp only[Bool.not_true,cond_false]
  have hG:SQ (ev E) (aS e) (ts.length:Int) x.kind x.typ x.text (a8 x.args) μ=some (qO (cC ts x) μ):=by
   refine aR ?_
   rw[Um,Vn]
   simp only[ad,ao,aa,ak,am,ah,ae,aj,aA,cond_true,cond_false,Bool.not_true,Bool.not_false,av,au,aq]
   rw[kV,q1,q2,ce,hll]
   simp only[ad,ao,aa,ak,am,ah,ae,aj,aA,cond_true,cond_false,Bool.not_true,Bool.not_false,av,au,aq]
   cases p2:f7 x with
   |false=>
    have:cC ts x=10:=by
     have hA:dS ts ts.length x=10:=by rw[oa,p1,p2,if_neg (by simp),if_pos rfl]
     unfold cC
     rw[if_pos (by rw[hA];decide),hA]
    rw[this]
    rfl
   |true=>
    simp only[Bool.not_true,cond_false]
    rw[UK g (fun x hx=>(htx x hx).2) hlen p1 p2 hs hal,aa,QS p1 p2]
    exact LO _ _ _
  rw[hG,aa]
  exact LN _ _ _
theorem VT (he:e.length≤200)(htx: ∀x∈e,x.text.length≤200000∧x.args.length≤1000): ∀(m:Nat) (ts:List T),Good e ts→ts.length+m=e.length→
  KH (ev E) (aS e) (ts.length : Int) μ = some (match gw (e.drop ts.length) ts with
   | .inl q=>wX q.1 q.2 μ
   | .inr us=>wY (aS e) μ):=by
 intro m
 have hlen:(aS e).length=e.length:=by simp[aS]
 induction m with
 |zero=>
  intro ts g hn
  refine aW ?_
  rw[J2,hlen,cw (by omega),cond_false,List.drop_eq_nil_of_le (by omega)]
  rfl
 |succ m ih=>
  intro ts g hn
  have hlt:ts.length<e.length:=by omega
  have hx:e[ts.length]? =some e[ts.length]:=List.getElem?_eq_getElem hlt
  refine aW ?_
  rw[J2,hlen,cj hlt,cond_true,WV g htx (by omega) hx,List.drop_eq_getElem_cons hlt,gw]
  simp only[ad,ao,aa,ak,am,ah,ae,aj,aA,cond_true,cond_false,Bool.not_true,Bool.not_false,av,au,aq]
  by_cases h0:cC ts e[ts.length]=0
  ·rw[show decide (cC ts e[ts.length]=0)=true by simp[h0],if_neg (by simp[h0])]
   simp only[Bool.not_true,cond_false]
   rw[bM (by omega)]
   have:=ih (ts++[mkT ts e[ts.length]]) (g.step hx h0) (by simp;omega)
   rw[show (ts++[mkT ts e[ts.length]]).length=ts.length+1 by simp]at this
   exact this
  ·rw[show decide (cC ts e[ts.length]=0)=false by simp[h0],if_pos (show cC ts e[ts.length]≠0 from h0)]
   rfl
theorem WM (htx: ∀x∈e,x.text.length≤200000∧x.args.length≤1000)(hle:e.length≤100000):(ev E).call 35 [LV.cv (CV.sl (aS e))] μ=some (.ret (.ltup [LV.int .i64 (du e).1,LV.int .i64 (du e).2]) μ):=by
 have hlen:(aS e).length=e.length:=by simp[aS]
 refine aJ ?_
 rw[Y8,hlen]
 unfold du
 by_cases h0:e=[]
 ·subst h0;rfl
 have h0':e.length≠0:=fun h=>h0 (List.length_eq_zero_iff.1 h)
 rw[show decide ((e.length:Int)=0)=false by simp[h0],cond_false,if_neg h0]
 by_cases h1:120<e.length
 ·have hG:Kq (ev E) (aS e) μ=some (nE 0 8 μ):=by
   refine aR ?_
   rw[JV,hlen,show decide ((120:Int)<(e.length:Int))=true by simp;omega,cond_true]
  rw[hG,aa,if_pos h1]
  exact zd _ _ _ _
 rw[if_neg h1]
 have hL:=VT (μ:=μ) (e:=e) (by omega) htx e.length [] (Good.nil e) (by simp)
 have e3:((0:Nat):Int)=0:=rfl
 rw[List.length_nil,List.drop_zero,e3]at hL
 have hG5:SL (ev E) (aS e) μ=some (lq (match gw e []with| .inl q=>q| .inr ts=>pj e ts).1 (match gw e []with| .inl q=>q| .inr ts=>pj e ts).2 μ):=by
  refine aR ?_
  rw[Uh,hL,aa]
  cases hr:gw e []with
  |inl q=>exact L4 _ _ _ _
  |inr us=>
   dsimp only
   obtain⟨g,hul⟩:=o9 e.length [] us (Good.nil e) (by simp) (by simpa using hr)
   have hlt:e.length-1<e.length:=by omega
   have hcast:(e.length:Int) -1=((e.length-1:Nat):Int):=by omega
   have hul1:us[e.length-1]? =some us[e.length-1]:=List.getElem?_eq_getElem (by omega)
   have h71:=Lg (μ:=μ) g (fun x hx=>(htx x hx).2) (by omega) (e.length) (e.length-1) hlt _ hul1
   rw[L5,hlen,bB (by omega) (by omega),hcast,cO,List.getElem?_eq_getElem hlt,Option.map_some,aa,bY,h71]
   have hlast:e.getLast?=some e[e.length-1]:=by rw[List.getLast?_eq_getElem?,List.getElem?_eq_getElem hlt]
   simp only[ad,ao,aa,ak,am,ah,ae,aj,aA,cond_true,cond_false,Bool.not_true,Bool.not_false,av,au,aq]
   unfold pj
   rw[hlast]
   dsimp only
   have hfa:dW us (e.length-1)=((e.length-1:Nat):Int)+1-(us[e.length-1].size:Int):=by
    unfold dW
    rw[hul1]
   by_cases h3:e[e.length-1].kind=3
   ·rw[decide_eq_true h3,cond_true,if_pos (.inl h3),hcast]
   ·rw[decide_eq_false h3,cond_false]
    by_cases h4:dW us (e.length-1)=0
    ·rw[show decide ((us[e.length-1].size:Int)=(e.length:Int))=true by simp;omega,if_neg (by simp[h3,h4])]
     rfl
    ·rw[show decide ((us[e.length-1].size:Int)=(e.length:Int))=false by simp;omega,if_pos (.inr h4),hcast]
     rfl
 have hG:Kq (ev E) (aS e) μ=some (nE (match gw e []with| .inl q=>q| .inr ts=>pj e ts).1 (match gw e []with| .inl q=>q| .inr ts=>pj e ts).2 μ):=by
  refine aR ?_
  rw[JV,hlen,show decide ((120:Int)<(e.length:Int))=false by simp;omega,cond_false,hG5,aa]
  exact LG _ _ _ _
 rw[hG,aa]
 exact zd _ _ _ _
end
end Go.Abs
set_option linter.unusedVariables false
set_option linter.unusedSimpArgs false
set_option maxRecDepth 100000
namespace Go.Abs
open Go Go.Proofs
theorem uW {α:Type}: ∀(vs pre cs:List α),cs.length=vs.length→bo (pre++cs) pre.length vs=pre++vs
 |[],pre,cs,h=>by
  have:cs=[]:=List.length_eq_zero_iff.1 h
  subst this
  rfl
 |v::r,pre,[],h=>by simp at h
 |v::r,pre,c::cs,h=>by
  have e:(pre++c::cs).set pre.length v=(pre++[v])++cs:=by
   rw[List.set_append_right (h:=Nat.le_refl _)]
   simp
  rw[bo,e]
  have:=uW r (pre++[v]) cs (by simpa using h)
  rw[List.length_append,List.length_singleton]at this
  rw[this,List.append_assoc]
  rfl
theorem yq: ∀(cs:List CV),gI false 1 cs.length cs=cs
 |[]=>rfl
 |c::r=>by
  rw[List.length_cons,gI]
  simp only[List.headD_cons,List.drop_succ_cons,List.drop_zero,yq r]
theorem xH (n:Nat)(z:CV):gv n [z]=List.replicate n z:=by
 unfold gv
 induction n with
 |zero=>rfl
 |succ n ih=>rw[List.replicate_succ,List.flatten_cons,ih];rfl
theorem Df: ∀(l:List Int),List.flatMap CV.cells (a8 l)=a8 l
 |[]=>rfl
 |n::r=>by
  have e:a8 (n::r)=CV.int .i64 n::a8 r:=rfl
  rw[e,List.flatMap_cons,Df r]
  rfl
theorem BD: ∀(l:List Int),de (a8 l)=true
 |[]=>rfl
 |n::r=>by
  have e:a8 (n::r)=CV.int .i64 n::a8 r:=rfl
  rw[e]
  simp only[de]
  rw[show dc (CV.int .i64 n)=true from rfl]
  exact BD r
section
variable {μ:Mu}{e:List Nd}
theorem WQ {l:List Int}(h:l.length≤1000000):(ev E).call 54 [LV.cv (CV.sl (a8 l))] μ=some (.ret (LV.cv (CV.sl (a8 l))) μ):=by
 refine aJ ?_
 have hset:bo (gv (Int.toNat (l.length:Int)) [CV.int .i64 (0:Int)]) 0 (List.flatMap CV.cells (a8 l))=a8 l:=by
  rw[Df,xH,Int.toNat_natCast]
  exact uW (a8 l) [] (List.replicate l.length (CV.int .i64 0)) (by simp[a8])
 have hrl:(gv (Int.toNat (l.length:Int)) [CV.int .i64 (0:Int)]).length=l.length:=by rw[xH];simp
 have b1:(decide (0≤(l.length:Int))&&decide ((l.length:Int)≤(1000000000:Int)))=true:=by simp;omega
 have b2:Nat.ble l.length (Int.toNat (l.length:Int))=true:=Nat.ble_eq_true_of_le (by simp)
 have b3:Nat.ble (0+l.length*1) l.length=true:=Nat.ble_eq_true_of_le (by omega)
 have b4:Nat.ble (Int.toNat (l.length:Int)*1) l.length=true:=Nat.ble_eq_true_of_le (by simp)
 rw[Zc,ce,hset,hrl,ce,b1,aA,xe,b2,b3,BD,b4]
 simp only[Bool.and_true,aA]
 rw[Int.toNat_natCast]
 have:=yq (a8 l)
 rw[ce]at this
 rw[this]
theorem AU: ∀(l:List Nd),cS 4 (aS l)=true
 |[]=>rfl
 |x::r=>by
  have e:aS (x::r)=x.cv::aS r:=rfl
  rw[e]
  simp only[cS]
  rw[show df 4 x.cv=true from rfl]
  exact AU r
theorem ga (e:List Nd):(aS e).length=e.length:=by simp[aS]
theorem WI (he:e.length≤100000)(htx: ∀x∈e,x.args.length≤1000):(ev E).call 17 [LV.cv (CV.sl (aS e))] μ=some (.ret (LV.osl (aS e)) μ):=by
 refine aJ ?_
 have loop: ∀(m n:Nat),n+m=e.length→KE (ev E) (aS e) (aS (e.take n)) (n:Int) μ=some (wS (aS e) μ):=by
  intro m
  induction m with
  |zero=>
   intro n hn
   refine aW ?_
   rw[JZ,ga,cw (by omega),cond_false,List.take_of_length_le (by omega)]
  |succ m ih=>
   intro n hn
   have hlt:n<e.length:=by omega
   have hx:e[n]? =some e[n]:=List.getElem?_eq_getElem hlt
   have hnext:aS (e.take n)++[e[n].cv]=aS (e.take (n+1)):=by
    rw[List.take_succ_eq_append_getElem hlt]
    simp only[aS,List.map_append,List.map_cons,List.map_nil]
   have hcv:CV.agg [CV.int .i64 e[n].kind,CV.int .i64 e[n].typ,CV.str e[n].text,CV.sl (a8 e[n].args)]=e[n].cv:=rfl
   have hal:=htx e[n] (List.getElem_mem hlt)
   refine aW ?_
   rw[JZ,ga,cj hlt,cond_true,cO,hx,Option.map_some,aa,bY,aa,bY,aa,bY,aa,bY,WQ (by omega)]
   simp only[ad,ao,aa,ak,am,ah,ae,aj,aA,cond_true,cond_false,Bool.not_true,Bool.not_false,av,au,aq]
   rw[hcv,iM (by rw[ga];simp;omega) (AU _) (by rfl),aA,hnext,bM (by omega)]
   exact ih (n+1) (by omega)
 have:=loop e.length 0 (by omega)
 have e0:((0:Nat):Int)=0:=rfl
 have e1:aS (e.take 0)=[]:=rfl
 rw[e0,e1]at this
 rw[Y2,this,aa]
 exact LT _ _ _
theorem X6: ∃d,E.P.underlying 91=some d:=by
 have h:(E.P.underlying 91).isSome=true:=by kernel_rfl
 exact Option.isSome_iff_exists.1 h
theorem WB:bD E.P 91=false:=by kernel_rfl
theorem Wp {cs:List CV}{n:Nat}{c:CV}(h:cs[n]? =some c):bv E.P 91 (Ob.arr 1 cs) (0+n*1)=some (LV.cv c):=by
 obtain⟨d,hd⟩:=X6
 simp only[bv,hd,aa,lH,fE,WB]
 rw[show 0+n*1=n by omega,h]
 rfl
def lr (us:List T)(N j:Nat):List CV:=(us.take j).map T.cv++List.replicate (N-j) (CV.v (.pointer none))
theorem QI {us:List T}{N j:Nat}(h:us.length=N)(hj:j≤N):(lr us N j).length=N:=by simp[lr];omega
theorem C5 {us:List T}{N j k:Nat}(hk:k<j){t:T}(ht:us[k]? =some t):(lr us N j)[k]? =some t.cv:=by
 have hl:k<us.length:=(List.getElem?_eq_some_iff.1 ht).1
 unfold lr
 rw[List.getElem?_append_left (by simp;omega),List.getElem?_map,List.getElem?_take,if_pos hk,ht]
 rfl
theorem QJ {us:List T}{N j:Nat}(h:us.length=N)(hj:j<N){t:T}(ht:us[j]? =some t):bo (lr us N j) j [t.cv]=lr us N (j+1):=by
 simp only[bo]
 have e1:us.take (j+1)=us.take j++[t]:=by
  rw[List.take_add_one,ht];rfl
 have e2:N-j=(N-(j+1))+1:=by omega
 unfold lr
 rw[e1,e2,List.replicate_succ,List.map_append]
 have hl:((us.take j).map T.cv).length=j:=by simp;omega
 rw[List.set_append_right (h:=by omega),hl]
 simp
theorem Pa {us:List T}{N j:Nat}(hN:us.length=N)(hN2:N≤1000)(hj:j<N){xs x12:List CV}{x4 x13 x14 p0 p1 q0 q1:Int}{p2 q2:List UInt8}{p3:List CV}{l:List Int}(hl:l.length≤1000)(hin: ∀a∈l,a= -1∨(0≤a∧a<j)): ∀(m n:Nat),n+m=l.length→
  xS (ev E) xs N x4 x12 x13 x14 (a8 l) (l.length:Int) (n:Int) (lr us N j) p0 p1 p2 p3 q0 q1 q2 (bA ((l.take n).map (bI (us.take j)))) μ=some (tq xs N x4 x12 x13 x14 (lr us N j) q0 q1 q2 (bA (l.map (bI (us.take j)))) μ):=by
 intro m
 induction m with
 |zero=>
  intro n hn
  refine aW ?_
  have htk:l.take n=l:=List.take_of_length_le (by omega)
  rw[Ep,cw (by omega),cond_false,htk]
 |succ m ih=>
  intro n hn
  have hlt:n<l.length:=by omega
  have hnext:bA ((l.take (n+1)).map (bI (us.take j)))=bA ((l.take n).map (bI (us.take j)))++[gy (bI (us.take j) l[n])]:=by
   rw[List.take_succ_eq_append_getElem hlt,List.map_append,yg,List.map_cons,List.map_nil,bA,bA]
  have hsz:=qW ((l.take n).map (bI (us.take j)))
  have hlen:(bA ((l.take n).map (bI (us.take j)))).length≤1000:=by rw[kD];simp;omega
  refine aW ?_
  rw[Ep,cj hlt,cond_true,eC,List.getElem?_eq_getElem hlt,Option.map_some,aa,cQ,aa,bM (by omega)]
  by_cases ha:l[n]= -1
  ·have he:gy (bI (us.take j) l[n])=CV.v (.pointer none):=by
    unfold bI;rw[if_pos ha,kC]
   rw[decide_eq_true ha,cond_true,iM (by simp only[List.length_cons,List.length_nil];omega) hsz (by rfl),aA,←he,←hnext]
   exact ih (n+1) (by omega)
  ·have hr:=hin _ (List.getElem_mem hlt)
   have hr0:0≤l[n]∧l[n]<j:=by omega
   obtain⟨t,h1,h2,_⟩:=lL (ts:=us.take j) hr0.1 (by rw[List.length_take];omega)
   have h3:us[l[n].toNat]? =some t:=by rw[List.getElem?_take,if_pos (by omega)]at h1;exact h1
   have he:gy (bI (us.take j) l[n])=t.cv:=by rw[h2,fU]
   have hhd:fZ [t.cv]=true:=by simp[fZ,Ch]
   have hget:=Wp (C5 (us:=us) (N:=N) (j:=j) (k:=l[n].toNat) (by omega) h3)
   have hcv:bP (LV.cv t.cv)=some t.cv:=rfl
   rw[decide_eq_false ha,cond_false,oV (by omega) (by omega),aA,hget,aa,hcv,aa,qi,aA,Ch,hhd,iM (by simp only[List.length_cons,List.length_nil];omega) hsz (by simp[cS,p5])]
   simp only[Bool.and_true,aA]
   rw[←he,←hnext]
   exact ih (n+1) (by omega)
theorem Vj {us:List T}(g:Good e us)(hul:us.length=e.length)(hne:e≠[])(hle:e.length≤1000)(htx: ∀x∈e,x.args.length≤1000):
  ∃t,us[e.length-1]? =some t∧(ev E).call 114 [LV.cv (CV.sl (aS e))] μ=some (.ret (LV.cv t.cv) μ):=by
 have hpos:0<e.length:=List.length_pos_iff.2 hne
 have loop: ∀(m j:Nat),j+m=e.length→CE (ev E) (aS e) e.length (aS e) (e.length:Int) (j:Int) (lr us e.length j) μ=some (tn (aS e) e.length (lr us e.length e.length) μ):=by
  intro m
  induction m with
  |zero=>
   intro j hj
   refine aW ?_
   rw[Eo,cw (by omega),cond_false,show j=e.length by omega]
  |succ m ih=>
   intro j hj
   have hlt:j<e.length:=by omega
   have hx:e[j]? =some e[j]:=List.getElem?_eq_getElem hlt
   have ht:us[j]? =some us[j]:=List.getElem?_eq_getElem (by omega)
   obtain⟨k1,k2,_⟩:=g.arg ht hx
   obtain⟨_,_,_,a4,_,_⟩:=gb k2
   have hin:=iR a4
   have hal:=htx e[j] (List.getElem_mem hlt)
   have h7 := Pa (μ := μ) (us := us) (N := e.length) (j := j) hul hle hlt (xs := aS e) (x12 := aS e) (x4 := (j : Int)) (x13 := (e.length : Int)) (x14 := (j : Int)) (p0 := e[j].kind) (p1 := e[j].typ) (p2 := e[j].text) (p3 := a8 e[j].args) (q0 := e[j].kind) (q1 := e[j].typ) (q2 := e[j].text) (l := e[j].args) hal (by
    intro a ha
    have:=hin a ha
    simpa[Nat.min_eq_left (show j≤us.length by omega)]using this) e[j].args.length 0 (by omega)
   have e0:((0:Nat):Int)=0:=rfl
   have en:bA (([]:List Int).map (bI (us.take j)))=[]:=by rw[List.map_nil,bA]
   rw[e0,List.take_zero,en]at h7
   have hcv:us[j].cv=CV.view [CV.int .i64 e[j].kind,CV.int .i64 e[j].typ,CV.str e[j].text,CV.sl (bA (e[j].args.map (bI (us.take j))))]:=by
    rw[k1];exact nB _
   have hb:Nat.ble (0+j*1+1) (lr us e.length j).length=true:=Nat.ble_eq_true_of_le (by rw[QI hul (by omega)];omega)
   have hce:CV.cells us[j].cv=[us[j].cv]:=by rw[nB];rfl
   refine aW ?_
   rw[Eo,cj hlt,cond_true,cO,hx,Option.map_some,aa,bY,ce,h7,aa,Hn,oV (by omega) (by omega),aA,←hcv,p5,Int.toNat_natCast,hb,hce,bM (by omega)]
   simp only[Bool.and_true,aA]
   rw[show 0+j*1=j by omega,QJ hul hlt ht]
   exact ih (j+1) (by omega)
 have ht:us[e.length-1]? =some us[e.length-1]:=List.getElem?_eq_getElem (by omega)
 refine⟨us[e.length-1],ht,aJ ?_⟩
 have hl:=loop e.length 0 (by omega)
 have e0:((0:Nat):Int)=0:=rfl
 have ea:lr us e.length 0=gv (Int.toNat (e.length:Int)) [CV.v (.pointer none)]:=by
  rw[xH,Int.toNat_natCast]
  rfl
 rw[e0,ea]at hl
 have b1:(decide (0≤(e.length:Int))&&decide ((e.length:Int)≤(1000000000:Int)))=true:=by simp;omega
 have hcast:(e.length:Int) -1=((e.length-1:Nat):Int):=by omega
 have hget:=Wp (C5 (us:=us) (N:=e.length) (j:=e.length) (k:=e.length-1) (by omega) ht)
 have hcv:bP (LV.cv us[e.length-1].cv)=some us[e.length-1].cv:=rfl
 rw[Xe,ga,b1,aA,Int.toNat_natCast]at*
 rw[hl,aa,Hm,ga,bB (by omega) (by omega),hcast,oV (by omega) (by omega),aA,Int.toNat_natCast,hget,aa,hcv,aa]
theorem NK {e:List Nd}(h:(du e).2=0):e≠[]∧e.length≤120∧ ∃us,gw e []= .inr us∧Good e us∧us.length=e.length∧ ∃x,e.getLast?=some x∧x.kind≠3:=by
 unfold du at h
 split at h
 ·cases h
 rename_i h0
 split at h
 ·cases h
 rename_i h1
 refine⟨h0,by omega,?_⟩
 cases hr:gw e []with
 |inl q=>
  exfalso
  rw[hr]at h
  dsimp only at h
  have key: ∀(r:List Nd) (ts:List T) (q:Int×Int),gw r ts= .inl q→q.2≠0:=by
   intro r
   induction r with
   |nil=>intro ts q h;cases h
   |cons x r ih=>
    intro ts q h
    rw[gw]at h
    split at h
    ·rename_i hx;injection h with h;subst h;exact hx
    ·exact ih _ _ h
  exact key e [] q hr h
 |inr us=>
  obtain⟨g,hul⟩:=o9 e.length [] us (Good.nil e) (by simp) (by simpa using hr)
  refine⟨us,rfl,g,hul,?_⟩
  rw[hr]at h
  dsimp only at h
  unfold pj at h
  cases hl:e.getLast? with
  |none=>exact absurd (List.getLast?_eq_none_iff.1 hl) h0
  |some x=>
   rw[hl]at h
   dsimp only at h
   refine⟨x,rfl,fun h3=> ?_⟩
   rw[if_pos (.inl h3)]at h
   cases h
theorem WS (htx: ∀x∈e,x.text.length≤200000∧x.args.length≤1000)(hle:e.length≤100000):
  ((du e).2≠0→(ev E).call 64 [LV.cv (CV.sl (aS e))] μ=some (.ret (.ltup [LV.cv (CV.v (.pointer none)),LV.int .i64 (du e).2]) μ))∧
  ((du e).2=0→ ∃(t:T) (x:Nd),e.getLast?=some x∧t.kind=x.kind∧x.kind≠3∧0≤x.kind∧x.kind<25∧(ev E).call 64 [LV.cv (CV.sl (aS e))] μ=some (.ret (.ltup [LV.cv t.cv,LV.int .i64 0]) μ)):=by
 have h33:=S2 (μ:=μ) htx hle
 refine⟨fun h=>aJ ?_,fun h=> ?_⟩
 ·rw[Wc,h33]
  simp only[ad,ao,aa,ak,am,ah,ae,aj,aA,cond_true,cond_false,Bool.not_true,Bool.not_false,av,au,aq]
  rw[show decide ((du e).2=0)=false by simp[h]]
  rfl
 ·obtain⟨h0,h1,us,hr,g,hul,x,hx,h3⟩:=NK h
  obtain⟨t,ht,h114⟩:=Vj (μ:=μ) g hul h0 (by omega) (fun x hx=>(htx x hx).2)
  have hpos:0<e.length:=List.length_pos_iff.2 h0
  have hx':e[e.length-1]? =some x:=by rw[←List.getLast?_eq_getElem?];exact hx
  have hkd:=g.kind ht
  obtain⟨k1,_,_⟩:=g.arg ht hx'
  have ek:t.kind=x.kind:=by rw[k1];rfl
  refine⟨t,x,hx,ek,h3,by omega,by omega,aJ ?_⟩
  have hcv:bP (LV.cv t.cv)=some t.cv:=rfl
  rw[Wc,h33,h]
  simp only[ad,ao,aa,ak,am,ah,ae,aj,aA,cond_true,cond_false,Bool.not_true,Bool.not_false,av,au,aq]
  simp only[decide_true,Bool.not_true,cond_false]
  rw[h114]
  simp only[ad,ao,aa,ak,am,ah,ae,aj,aA,cond_true,cond_false,Bool.not_true,Bool.not_false,av,au,aq]
  rw[hcv]
  rfl
theorem WL (htx: ∀x∈e,x.text.length≤200000∧x.args.length≤1000)(hle:e.length≤100000):
  ((du e).2≠0→(ev E).call 34 [LV.cv (CV.sl (aS e))] μ=some (.ret (.ltup [LV.int .i64 0,LV.int .i64 (du e).2]) μ))∧
  ((du e).2=0→ ∃x,e.getLast?=some x∧x.kind≠3∧0≤x.kind∧x.kind<25∧(ev E).call 34 [LV.cv (CV.sl (aS e))] μ=some (.ret (.ltup [LV.int .i64 (lvl x.kind),LV.int .i64 0]) μ)):=by
 obtain⟨l1,l2⟩:=WS (μ:=μ) htx hle
 refine⟨fun h=>aJ ?_,fun h=> ?_⟩
 ·rw[Wb,l1 h]
  have hcv:bP (LV.cv (CV.v (.pointer none)))=some (CV.v (.pointer none)):=rfl
  simp only[ad,ao,aa,ak,am,ah,ae,aj,aA,cond_true,cond_false,Bool.not_true,Bool.not_false,av,au,aq]
  rw[hcv]
  simp only[ad,ao,aa,ak,am,ah,ae,aj,aA,cond_true,cond_false,Bool.not_true,Bool.not_false,av,au,aq]
  rw[show decide ((du e).2=0)=false by simp[h]]
  rfl
 ·obtain⟨t,x,hx,ek,h3,k0,k1,h64⟩:=l2 h
  have eag:cU (LV.cv (CV.agg ei))=some ei:=rfl
  have hcv:bP (LV.cv t.cv)=some t.cv:=rfl
  have hG:SK (ev E) t.cv μ=some (wN (lvl x.kind) 0 μ):=by
   refine aR ?_
   rw[Ug,oY,ad,eag,aa,lz,qq]
   simp only[aa,Bool.not_false,aA,ak,cQ,iQ,np,aj,ek]
   rw[jS k0 k1]
  refine⟨x,hx,h3,k0,k1,aJ ?_⟩
  rw[Wb,h64]
  simp only[ad,ao,aa,ak,am,ah,ae,aj,aA,cond_true,cond_false,Bool.not_true,Bool.not_false,av,au,aq]
  rw[hcv]
  simp only[ad,ao,aa,ak,am,ah,ae,aj,aA,cond_true,cond_false,Bool.not_true,Bool.not_false,av,au,aq]
  rw[hG]
  simp only[decide_true,Bool.not_true,cond_false,aa]
  exact LF _ _ _ _
theorem WN {x:Nd}(h:e.getLast?=some x)(hle:e.length≤100000):(ev E).call 36 [LV.cv (CV.sl (aS e))] μ=some (.ret (LV.cv x.cv) μ):=by
 refine aJ ?_
 have hne:e≠[]:=fun h0=>by subst h0;cases h
 have hpos:0<e.length:=List.length_pos_iff.2 hne
 rw[Y9,ga,bB (by omega) (by omega),show (e.length:Int) -1=((e.length-1:Nat):Int)by omega,cO,←List.getLast?_eq_getElem?,h]
 rfl
end
end Go.Abs
set_option linter.unusedVariables false
set_option linter.unusedSimpArgs false
set_option maxRecDepth 100000
namespace Go.Abs
open Go Go.Proofs
noncomputable def ovE (X:FuncId→Option d9):Env:={E with prim:=fun f=>match X f with|some g=>some g|none=>E.prim f}
theorem PZ {X:FuncId→Option d9}{ρ:Rho}{f:FuncId}{args:List LV}{μ:Mu}(h:X f=none):aD (ovE X) ρ f args μ=aD E ρ f args μ:=by
 unfold aD ovE
 dsimp only
 rw[h]
theorem P0 {X:FuncId→Option d9}{ρ:Rho}{f:FuncId}{args:List LV}{μ:Mu}{g:d9}(h:X f=some g):aD (ovE X) ρ f args μ=g args μ:=by
 unfold aD ovE
 dsimp only
 rw[h]
theorem Fi {X:FuncId→Option d9}(hX: ∀f g args μ out,X f=some g→g args μ=some out→(ev E).call f args μ=some out): ∀n,LimR (fun _=>ev E) (evn (ovE X) n)
 |0=>⟨fun f args μ r h=>(by simp[evn]at h),fun H lv c s μ r h=>(by simp[evn]at h),fun H lv c s μ r h=>(by simp[evn]at h),fun f pv args μ r h=>(by simp[evn]at h)⟩
 |n+1=>by
  have ih:=Fi hX n
  refine⟨fun f args μ r h=>⟨0,fun _ _=> ?_⟩,fun H lv c s μ r h=>⟨0,fun _ _=> ?_⟩,fun H lv c s μ r h=>⟨0,fun _ _=> ?_⟩,fun f pv args μ r h=>⟨0,fun _ _=> ?_⟩⟩
  ·have h:aD (ovE X) (evn (ovE X) n) f args μ=some r:=h
   cases hx:X f with
   |some g=>
    rw[P0 hx]at h
    exact hX f g args μ r hx h
   |none=>
    rw[PZ hx]at h
    obtain⟨N,hN⟩:=uk ih (E:=E) (f:=f) (args:=args) (μ:=μ) r h
    exact aJ (hN N (Nat.le_refl _))
  ·obtain⟨N,hN⟩:=yW ih (P:=E.P) (H:=H) (lv:=lv) (c:=c) (s:=s) (μ:=μ) r h
   exact JH (hN N (Nat.le_refl _))
  ·obtain⟨N,hN⟩:=D6 ih (P:=E.P) (H:=H) (lv:=lv) (c:=c) (s:=s) (μ:=μ) r h
   exact Ox (hN N (Nat.le_refl _))
  ·obtain⟨N,hN⟩:=se ih (E:=E) (f:=f) (pv:=pv) (args:=args) (μ:=μ) r h
   exact xi (hN N (Nat.le_refl _))
theorem jP {X:FuncId→Option d9}(hX: ∀f g args μ out,X f=some g→g args μ=some out→(ev E).call f args μ=some out){n:Nat}{f:FuncId}{args:List LV}{μ:Mu}{out:Out}(h:(evn (ovE X) n).call f args μ=some out):(ev E).call f args μ=some out:=by
 obtain⟨N,hN⟩:=(Fi hX n).call f args μ out h
 exact hN N (Nat.le_refl _)
def uJ (a:Int)(b:List UInt8):Nat→Nat→Option Nat
 |0,_=>none
 |m+1,k=>if f9 k=2∧zj k≠[]∧lvl k=a∧zj k=b then some k else uJ a b m (k+1)
def RZ (a:Int)(b:List UInt8):LV:=match uJ a b 25 0 with|some k=> .ltup [LV.int .i64 (k:Int),LV.bool true]|none=> .ltup [LV.int .i64 0,LV.bool false]
section
variable {μ:Mu}
theorem TY {a:Int}{b:List UInt8}: ∀(m k:Nat),k+m=25→pJ (ev E) a b ei (k:Int) μ=some (match uJ a b m k with|some j=>tB (j:Int) true μ|none=>tC μ):=by
 intro m
 induction m with
 |zero=>
  intro k hk
  refine aW ?_
  rw[Ev,show decide ((k:Int)<25)=false by simp;omega,cond_false]
  rfl
 |succ m ih=>
  intro k hk
  refine aW ?_
  rw[Ev,show decide ((k:Int)<25)=true by simp;omega,cond_true,jS (by omega) (by omega),bM (by omega),ih (k+1) (by omega),uJ]
  revert ih
  generalize zj (k:Int)=tx
  intro ih
  by_cases h4:tx=b
  ·subst h4
   by_cases h1:f9 (k:Int)=2<;>by_cases h2:tx=[]<;>by_cases h3:lvl (k:Int)=a<;>simp[h1,h2,h3]
  ·by_cases h1:f9 (k:Int)=2<;>by_cases h2:tx=[]<;>by_cases h3:lvl (k:Int)=a<;>simp[h1,h2,h3,h4]
theorem VA {a:Int}{b:List UInt8}:(ev E).call 163 [LV.int .i64 a,LV.str b] μ=some (.ret (RZ a b) μ):=by
 refine aJ ?_
 have h:=TY (μ:=μ) (a:=a) (b:=b) 25 0 rfl
 have e0:((0:Nat):Int)=0:=rfl
 rw[e0]at h
 have eag:cU (LV.cv (CV.agg ei))=some ei:=rfl
 rw[XE,oY,ad,eag,aa,h,aa]
 unfold RZ
 cases uJ a b 25 0 with
 |some j=>exact Hx _ _ _ _
 |none=>exact Hy _ _
end
def Kc:d9:=fun args μ=>opt (aO args) fun _=>some (.ret (LV.cv (CV.agg ei)) μ)
def Te:d9:=fun args μ=>opt (aw args) fun q=>opt (aw q.2) fun r=>opt (aO r.2) fun _=>opt (aC .i64 q.1) fun a=>opt (aN r.1) fun b=>some (.ret (RZ a b) μ)
def rL:FuncId→Option d9
 |69=>some Kc
 |163=>some Te
 |_=>none
theorem lJ: ∀f g args μ out,rL f=some g→g args μ=some out→(ev E).call f args μ=some out:=by
 intro f g args μ out hf h
 unfold rL at hf
 split at hf
 ·injection hf with hf
  subst hf
  unfold Kc at h
  obtain⟨u,h1,h2⟩:=aZ h
  rw[eq h1]
  injection h2 with h2
  subst h2
  exact oY
 ·injection hf with hf
  subst hf
  unfold Te at h
  obtain⟨q,h1,h⟩:=aZ h
  obtain⟨r,h2,h⟩:=aZ h
  obtain⟨u,h3,h⟩:=aZ h
  obtain⟨a,h4,h⟩:=aZ h
  obtain⟨b,h5,h⟩:=aZ h
  injection h with h
  subst h
  rw[cr h1,cr h2,eq h3,rq h4,fY h5]
  exact VA
 ·cases hf
end Go.Abs
set_option linter.unusedVariables false
set_option maxRecDepth 100000
namespace Go.Abs
open Go Go.Proofs
def Va:List Nd:=[⟨1,0,[65],[]⟩,⟨1,0,[66],[]⟩,⟨1,0,[67],[]⟩,⟨10,0,[],[1,2]⟩,⟨12,0,[],[0,3]⟩]
theorem Zy:(evn (ovE rL) 200).call 22 [LV.cv (CV.sl (aS Va))] []=some (.ret (LV.ltup [LV.str ([91,65,43,91,66,42,67,93,93]:List UInt8),LV.int .i64 0]) []):=by kernel_rfl
end Go.Abs
set_option linter.unusedVariables false
set_option maxRecDepth 100000
namespace Go.Abs
open Go Go.Proofs
def exC:List Nd:=[⟨1,0,[65],[]⟩,⟨1,0,[66],[]⟩,⟨10,0,[],[0,1]⟩,⟨5,0,[],[2]⟩,⟨5,0,[],[3]⟩,⟨1,0,[67],[]⟩,⟨5,0,[],[5]⟩,⟨12,0,[],[4,6]⟩]
def exD:List Nd:=[⟨1,0,[65],[]⟩,⟨1,0,[66],[]⟩,⟨10,0,[],[0,1]⟩,⟨1,0,[67],[]⟩,⟨12,0,[],[2,3]⟩]
theorem ZB:(evn (ovE rL) 200).call 13 [LV.str ([40,40,65,42,66,41,41,43,40,67,41]:List UInt8)] []=some (.ret (LV.ltup [LV.cv (CV.sl (aS exC)),LV.int .i64 0]) []):=by kernel_rfl
end Go.Abs
set_option linter.unusedVariables false
set_option maxRecDepth 100000
namespace Go.Abs
open Go Go.Proofs
theorem ZC:(evn (ovE rL) 200).call 26 [LV.cv (CV.sl (aS exC))] []=some (.ret (LV.ltup [LV.cv (CV.sl (aS exD)),LV.int .i64 0]) []):=by kernel_rfl
theorem ZD:(evn (ovE rL) 200).call 16 [LV.cv (CV.sl (aS exD))] []=some (.ret (LV.ltup [LV.str ([65,42,66,43,67]:List UInt8),LV.int .i64 0]) []):=by kernel_rfl
end Go.Abs
set_option linter.unusedVariables false
set_option maxRecDepth 100000
namespace Go.Abs
open Go Go.Proofs
def exB:List Nd:=[⟨1,0,[73],[]⟩,⟨0,0,[50],[]⟩,⟨1,0,[78],[]⟩,⟨3,0,[],[1,2,-1]⟩,⟨2,0,[88],[0,3]⟩,⟨0,1,[49,46,53],[]⟩,⟨0,0,[50],[]⟩,⟨7,0,[],[6]⟩,⟨4,0,[],[5,7]⟩,⟨15,0,[],[4,8]⟩]
def tkB:List Tok:=[⟨0,0,[88]⟩,⟨2,0,[40]⟩,⟨0,0,[73]⟩,⟨2,0,[44]⟩,⟨1,0,[50]⟩,⟨2,0,[58]⟩,⟨0,0,[78]⟩,⟨2,0,[41]⟩,⟨2,0,[46,76,84,46]⟩,⟨2,0,[40]⟩,⟨1,1,[49,46,53]⟩,⟨2,0,[44]⟩,⟨2,0,[45]⟩,⟨1,0,[50]⟩,⟨2,0,[41]⟩]
theorem Zz:(evn (ovE rL) 200).call 18 [LV.cv (CV.sl (tkB.map Tok.cv))] []=some (.ret (LV.ltup [LV.cv (CV.sl (aS exB)),LV.int .i64 15,LV.int .i64 0]) []):=by kernel_rfl
end Go.Abs
set_option linter.unusedVariables false
set_option maxRecDepth 100000
namespace Go.Abs
open Go Go.Proofs
theorem ZA:(evn (ovE rL) 200).call 16 [LV.cv (CV.sl (aS exB))] []=some (.ret (LV.ltup [LV.str ([88,40,73,44,50,58,78,41,46,76,84,46,40,49,46,53,44,45,50,41]:List UInt8),LV.int .i64 0]) []):=by kernel_rfl
end Go.Abs
set_option linter.unusedVariables false
set_option maxRecDepth 100000
namespace Go.Abs
open Go Go.Proofs
def exA:List Nd:=[⟨1,0,[65],[]⟩,⟨1,0,[66],[]⟩,⟨1,0,[67],[]⟩,⟨10,0,[],[1,2]⟩,⟨12,0,[],[0,3]⟩]
theorem Zx:(evn (ovE rL) 200).call 13 [LV.str ([97,32,43,32,98,42,99]:List UInt8)] []=some (.ret (LV.ltup [LV.cv (CV.sl (aS exA)),LV.int .i64 0]) []):=by kernel_rfl
end Go.Abs
set_option linter.unusedVariables false
set_option linter.unusedSimpArgs false
set_option maxRecDepth 100000
namespace Go.Abs
open Go Go.Proofs
theorem R8 {s:List UInt8}{l:List Tok}{e:List Nd}(hs:s.length≤200000)(h1:eI false s=l)(h2:(bx false s).e=0)(h3:(ev E).call 18 [LV.cv (CV.sl (l.map Tok.cv))] []=some (.ret (LV.ltup [LV.cv (CV.sl (aS e)),LV.int .i64 (l.length:Int),LV.int .i64 0]) [])):
  (ev E).call 13 [LV.str s] []=some (.ret (LV.ltup [LV.cv (CV.sl (aS e)),LV.int .i64 0]) []):=by
 refine aJ ?_
 have h51:=WP (μ:=[]) hs
 have et:aV l=l.map Tok.cv:=rfl
 rw[h1,h2,et]at h51
 have hG7:SH (ev E) (l.map Tok.cv) (aS e) (l.length:Int) []=some (qC (aS e) 0 []):=by
  refine aR ?_
  rw[Ub,show decide ((l.length:Int)<((l.map Tok.cv).length:Int))=false by simp,cond_false]
 have hG:SG (ev E) (l.map Tok.cv) []=some (qB (aS e) 0 []):=by
  refine aR ?_
  rw[Ua,h3]
  simp only[ad,ao,aa,ak,am,ah,ae,aj,aA,cond_true,cond_false,Bool.not_true,Bool.not_false,av,au,aq]
  rw[hG7]
  simp only[decide_true,Bool.not_true,cond_false,aa]
  exact Lx _ _ _ _
 rw[Y1,h51]
 simp only[ad,ao,aa,ak,am,ah,ae,aj,aA,cond_true,cond_false,Bool.not_true,Bool.not_false,av,au,aq]
 rw[hG]
 simp only[decide_true,Bool.not_true,cond_false,aa]
 exact Lw _ _ _ _
def txB:List UInt8:=[120,40,105,44,50,58,110,41,32,46,108,116,46,32,40,49,46,53,44,45,50,41]
theorem Wq:eI false txB=tkB:=by decide+kernel
theorem UC:(bx false txB).e=0:=by decide+kernel
theorem WH:(ev E).call 12 [] []=some (.ret (LV.bool true) []):=by
 refine aJ ?_
 have r1:=jP lJ Zx
 have r2:=jP lJ Zy
 have r3:=R8 (s:=txB) (by decide) Wq UC (jP lJ Zz)
 have r4:=jP lJ ZA
 have r5:=jP lJ ZB
 have r6:=jP lJ ZC
 have r7:=jP lJ ZD
 have e2:Va=exA:=rfl
 rw[e2]at r2
 unfold txB at r3
 rw[Y0,r1]
 simp only[ad,ao,aa,ak,am,ah,ae,aj,aA,cond_true,cond_false,Bool.not_true,Bool.not_false,av,au,aq]
 rw[r2]
 simp only[ad,ao,aa,ak,am,ah,ae,aj,aA,cond_true,cond_false,Bool.not_true,Bool.not_false,av,au,aq]
 rw[r3]
 simp only[ad,ao,aa,ak,am,ah,ae,aj,aA,cond_true,cond_false,Bool.not_true,Bool.not_false,av,au,aq]
 rw[r4]
 simp only[ad,ao,aa,ak,am,ah,ae,aj,aA,cond_true,cond_false,Bool.not_true,Bool.not_false,av,au,aq]
 rw[r5]
 simp only[ad,ao,aa,ak,am,ah,ae,aj,aA,cond_true,cond_false,Bool.not_true,Bool.not_false,av,au,aq]
 rw[r6]
 simp only[ad,ao,aa,ak,am,ah,ae,aj,aA,cond_true,cond_false,Bool.not_true,Bool.not_false,av,au,aq]
 rw[r7]
 simp only[ad,ao,aa,ak,am,ah,ae,aj,aA,cond_true,cond_false,Bool.not_true,Bool.not_false,av,au,aq]
 rfl
end Go.Abs
set_option linter.unusedVariables false
set_option linter.unusedSimpArgs false
set_option maxRecDepth 100000
namespace Go.Abs
open Go Go.Proofs
section
variable {μ:Mu}{e:List Nd}
def xj (x:Nd):Bool:=decide (x.args.length≤9)&&decide (x.text.length≤130)
def K7 (e:List Nd):Bool:=(decide (e.length≤40)||decide (120<e.length))&&decide (e.length≤122)&&e.all xj
theorem VS (he:e.length≤122): ∀(m n:Nat),n+m=e.length→KF (ev E) (aS e) (n:Int) μ=some (if(e.drop n).all xj=true then wT μ else qS false μ):=by
 intro m
 induction m with
 |zero=>
  intro n hn
  refine aW ?_
  rw[J0,ga,cw (by omega),cond_false,List.drop_eq_nil_of_le (by omega)]
  rfl
 |succ m ih=>
  intro n hn
  have hlt:n<e.length:=by omega
  refine aW ?_
  rw[J0,ga,cj hlt,cond_true,cO,List.getElem?_eq_getElem hlt,Option.map_some,aa,bY,aa,bY,ce,bM (by omega),ih (n+1) (by omega),List.drop_eq_getElem_cons hlt,List.all_cons]
  unfold xj
  by_cases h1:e[n].args.length≤9
  ·rw[show decide ((9:Int)<(e[n].args.length:Int))=false by simp;omega,cond_false,decide_eq_true h1]
   by_cases h2:e[n].text.length≤130
   ·rw[show decide ((130:Int)<(e[n].text.length:Int))=false by simp;omega,cond_false,decide_eq_true h2]
    rfl
   ·rw[show decide ((130:Int)<(e[n].text.length:Int))=true by simp;omega,cond_true,decide_eq_false h2]
    rfl
  ·rw[show decide ((9:Int)<(e[n].args.length:Int))=true by simp;omega,cond_true,decide_eq_false h1]
   rfl
theorem WJ:(ev E).call 21 [LV.cv (CV.sl (aS e))] μ=some (.ret (LV.bool (K7 e)) μ):=by
 refine aJ ?_
 have e0:((0:Nat):Int)=0:=rfl
 have hG:e.length≤122→opt (BZ (ev E) (aS e) μ) (kB (ev E) 21 H21 [])=some (.ret (LV.bool (e.all xj)) μ):=by
  intro he
  have hL:=VS (μ:=μ) he e.length 0 (by omega)
  rw[e0,List.drop_zero]at hL
  have:BZ (ev E) (aS e) μ=some (qJ (e.all xj) μ):=by
   refine aR ?_
   rw[Uc,hL,aa]
   cases e.all xj with
   |true=>exact LW _ _
   |false=>exact LU _ _ _
  rw[this,aa]
  exact Ly _ _ _
 rw[Y3,ga]
 unfold K7
 by_cases h1:e.length≤40
 ·rw[show decide ((40:Int)<(e.length:Int))=false by simp;omega,cond_false,show decide ((122:Int)<(e.length:Int))=false by simp;omega,cond_false,decide_eq_true h1,decide_eq_true (show e.length≤122 by omega),hG (by omega)]
  simp
 ·rw[show decide ((40:Int)<(e.length:Int))=true by simp;omega,cond_true,decide_eq_false h1]
  by_cases h2:e.length≤120
  ·rw[show decide ((e.length:Int)≤120)=true by simp;omega,cond_true,decide_eq_false (show ¬120<e.length by omega)]
   simp
  ·rw[show decide ((e.length:Int)≤120)=false by simp;omega,cond_false,decide_eq_true (show 120<e.length by omega)]
   by_cases h3:e.length≤122
   ·rw[show decide ((122:Int)<(e.length:Int))=false by simp;omega,cond_false,decide_eq_true h3,hG h3]
    simp
   ·rw[show decide ((122:Int)<(e.length:Int))=true by simp;omega,cond_true,decide_eq_false h3]
    simp
theorem YX:(ev E).call 8 [LV.cv (CV.sl (aS e))] []=some (.ret (LV.bool true) []):=by
 refine aJ ?_
 have hG3:UV (ev E) (aS e) []=some (vo true []):=by
  refine aR ?_
  rw[Wd,WJ]
  simp only[ad,ao,aa,ak,am,ah,ae,aj,aA,cond_true,cond_false,Bool.not_true,Bool.not_false,av,au,aq]
  cases hf:K7 e with
  |false=>rfl
  |true=>
   simp only[Bool.not_true,cond_false]
   unfold K7 at hf
   simp only[Bool.and_eq_true,decide_eq_true_eq,List.all_eq_true]at hf
   have he:e.length≤100000:=by omega
   have htx: ∀x∈e,x.text.length≤200000∧x.args.length≤1000:=by
    intro x hx
    have:=hf.2 x hx
    unfold xj at this
    simp only[Bool.and_eq_true,decide_eq_true_eq]at this
    omega
   have h17:=WI (μ:=[]) (e:=e) he (fun x hx=>(htx x hx).2)
   have h33:=S2 (μ:=[]) htx he
   have h35:=WM (μ:=[]) htx he
   obtain⟨l1,l2⟩:=WL (μ:=[]) htx he
   have hG5:UW (ev E) (aS e) []=some (pO true []):=by
    refine aR ?_
    rw[We,h17]
    simp only[ad,ao,aa,ak,am,ah,ae,aj,aA,cond_true,cond_false,Bool.not_true,Bool.not_false,av,au,aq]
    rw[h33]
    simp only[ad,ao,aa,ak,am,ah,ae,aj,aA,cond_true,cond_false,Bool.not_true,Bool.not_false,av,au,aq]
    rw[h17]
    simp only[ad,ao,aa,ak,am,ah,ae,aj,aA,cond_true,cond_false,Bool.not_true,Bool.not_false,av,au,aq]
    by_cases h0:(du e).2=0
    ·obtain⟨x,hx,h3,k0,k1,h34⟩:=l2 h0
     rw[h34]
     simp only[ad,ao,aa,ak,am,ah,ae,aj,aA,cond_true,cond_false,Bool.not_true,Bool.not_false,av,au,aq]
     rw[h35]
     simp only[ad,ao,aa,ak,am,ah,ae,aj,aA,cond_true,cond_false,Bool.not_true,Bool.not_false,av,au,aq]
     have h36:=WN (μ:=[]) hx he
     have hG12:SU (ev E) (aS e) (lvl x.kind) 0 []=some (wR true []):=by
      refine aR ?_
      rw[Ur,h36,show decide ((0:Int)=0)=true from rfl,cond_true,ad,bY,Lf]
      simp only[ad,ao,aa,ak,am,ah,ae,aj,aA,cond_true,cond_false,Bool.not_true,Bool.not_false,av,au,aq]
      rw[JS k0 k1 h3]
      simp
     have hG10:Ks (ev E) (aS e) (lvl x.kind) 0 (du e).2 []=some (nH true []):=by
      refine aR ?_
      rw[JY,h0,hG12]
      rfl
     rw[hG10]
     simp
     exact zf _ _ _
    ·rw[l1 h0]
     simp only[ad,ao,aa,ak,am,ah,ae,aj,aA,cond_true,cond_false,Bool.not_true,Bool.not_false,av,au,aq]
     rw[h35]
     simp only[ad,ao,aa,ak,am,ah,ae,aj,aA,cond_true,cond_false,Bool.not_true,Bool.not_false,av,au,aq]
     have hG10:Ks (ev E) (aS e) 0 (du e).2 (du e).2 []=some (nH true []):=by
      refine aR ?_
      rw[JY,show decide ((du e).2=0)=false by simp[h0]]
      simp
     rw[hG10]
     simp
     exact zf _ _ _
   rw[hG5,aa]
   exact PN _ _ _
 rw[nf8,WH]
 simp only[ad,ao,aa,ak,am,ah,ae,aj,aA,cond_true,cond_false,Bool.not_true,Bool.not_false,av,au,aq]
 rw[hG3,aa]
 exact PM _ _ _
end
end Go.Abs
set_option linter.unusedVariables false
set_option linter.unusedSimpArgs false
set_option maxRecDepth 100000
set_option maxHeartbeats 1000000
namespace Go.Abs
open Go Go.Proofs Go.RowKit
theorem sizeBuilder:(Tryz.prog.info? 130).map (·.size)=some 2:=by kernel_rfl
theorem liesBuilder:liesAt Tryz.prog Tryz.prog.depth 130 (2 / Tryz.prog.cellsOf 130) 0 130 1=true:=by kernel_rfl
theorem NM (b:Nat)(w:World)(h0:w.cell? ⟨b,0,none⟩=some (.pointer (some ⟨b,0,none⟩))):
  Calls Tryz.prog 153 #[.pointer (some ⟨b,0,none⟩)] w fun e w'=>e= .returned (.tuple #[])∧w'=w:=by
 obtain⟨j,hj,_⟩:=Option.map_eq_some_iff.1 sizeBuilder
 go_enter Tryz.func153,Tryz.ntmps153
 go_wp2
 rw[Lib.run_neq_ptr_same w _ Tryz.underlying127 hj]
 go_wp2
 go_end0
 exact⟨rfl,rfl⟩
theorem K0 (b:Nat)(w:World)(h0:w.cell? ⟨b,0,none⟩=some (.pointer none))(hsh:w.shape? b=some (130,2))(hfz:w.frozen? ⟨b,0,none⟩=false):
  Calls Tryz.prog 153 #[.pointer (some ⟨b,0,none⟩)] w fun e w'=>e= .returned (.tuple #[])∧w'=w.setCell ⟨b,0,none⟩ (.pointer (some ⟨b,0,none⟩)):=by
 obtain⟨j,hj,hjs⟩:=Option.map_eq_some_iff.1 sizeBuilder
 go_enter Tryz.func153,Tryz.ntmps153
 go_wp2
 rw[Lib.run_to_unsafe w ⟨b,0,none⟩ Tryz.underlying127 Tryz.underlying195 hj (by rw[hjs];decide) hsh (Nat.zero_lt_succ 1)]
 simp only[Result.andThen]
 rw[Oper.upon_value]
 go_wp2
 rw[run_callFunc_extern Tryz.func170 (by kernel_rfl) (by kernel_rfl) (by kernel_rfl) (e:=Extern.AbiNoEscape.same) (by kernel_rfl)]
 rw[Lib.run_noEscape]
 simp only[Result.andThen]
 rw[Oper.upon_value]
 go_wp2
 rw[Lib.run_from_unsafe w ⟨b,0,none⟩ Tryz.underlying195 Tryz.underlying127 hj hsh liesBuilder]
 simp only[Result.andThen]
 rw[Oper.upon_value]
 go_wp2
 go_end0
 exact⟨rfl,rfl⟩
theorem Ql {b:Nat}{w:World}{p:Option Addr}{v:Value}(h0:w.cell? ⟨b,0,none⟩=some v)(hfz:w.frozen? ⟨b,0,none⟩=false):(storeVar 127 ⟨b,0,none⟩ (.pointer p)).run Tryz.prog w= .ok () (w.setCell ⟨b,0,none⟩ (.pointer p)):=by
 simp[storeVar,Tryz.sizeOf127,storeCells,Value.cells,run_store_pointer,stored,h0,hfz,Addr.add]
section
variable {W0 w:World}{G:Gh}{L:Nat}{μ:Mu}
theorem Rel.ret {args:List LV}{cargs:Array Value}{v:LV}{cv:Value}(R:Rel G L (aP args) μ cargs w)(hv:LVR G w L 0 v cv)(hno: ∀b,¬aH v cv b):
  Rel G L (aP [v]) μ #[cv] w∧(∀b,aB G w (aP [v]) μ #[cv] b→aB G w (aP args) μ cargs b):=by
 have hob: ∀lev i,aE (μ++[(aP [v]).lam]) lev i=aE (μ++[(aP args).lam]) lev i:=fun _ _=>rfl
 have hown: ∀q b,ay G w (aP [v]).fr #[cv] (μ++[(aP [v]).lam]) q b→ay G w (aP args).fr cargs (μ++[(aP args).lam]) q b:=by
  intro q b h
  cases q with
  |fr t=>
   exfalso
   simp only[ay,ct]at h
   cases t with
   |zero=>exact hno b h
   |succ t=>simp[aH]at h
  |ob lev i k=>exact h
 refine⟨⟨R.lev,fun t=> ?_,R.lam,R.mu,R.inj,fun q q' b h h'=>R.own q q' b (hown q b h) (hown q' b h'),fun q b lev i h h'=>R.apart q b lev i (hown q b h) h',R.nlt,R.nL,R.ngt⟩,fun b h=> ?_⟩
 ·rw[ct]
  cases t with
  |zero=>exact hv
  |succ t=>simp[LVR,VR]
 ·rcases h with⟨q,h⟩|h
  ·exact .inl ⟨q,hown q b h⟩
  ·exact .inr h
structure Bld (G:Gh) (L:Nat) (μ:Mu) (w:World) (lev i:Nat) (a b:LV) (cur:Array Value) (fz:Nat×Nat):Prop where
 lt:lev<L
 live:aU μ lev i= .cells [a,b]
 heap:w.heap[G.β lev i]? =some (.cells cur 130 fz)
 size:cur.size=2
 unf:ec cur fz
 O:G.O (G.β lev i)=0
 va:LVR (G.below lev) w lev 0 a (cur.getD 0 undef)
 vb:LVR (G.below lev) w lev 0 b (cur.getD 1 undef)
theorem ND {args:List LV}{cargs:Array Value}{lev i:Nat}{a b:LV}(R:Rel G L (aP args) μ cargs w)(ha:args[0]? =some (.cv (.tref lev i 130 2)))(hob:aU μ lev i= .cells [a,b]):
  ∃cur fz,Bld G L μ w lev i a b cur fz∧i<G.n lev∧cargs.getD 0 undef= .pointer (some ⟨G.β lev i,0,none⟩):=by
 have h0:=R.fr 0
 rw[ct,ha]at h0
 simp only[Option.getD_some,LVR,VR]at h0
 obtain⟨h1,h2,cur,fz,h3,h4⟩:=h0
 have hlt:lev<L:=by
  rcases Nat.lt_trichotomy lev L with h|h|h
  ·exact h
  ·subst h
   have:=R.nL
   simp[aP]at this
   omega
  ·have:=R.ngt lev h
   omega
 have hm:=R.mu lev i hlt
 rw[hob]at hm
 simp only[ObR]at hm
 obtain⟨cur2,e2,fz2,k1,k2,k3,k4,k5⟩:=hm
 rw[h3]at k1
 obtain⟨rfl,rfl,rfl⟩:=(Obj.cells.injEq ..).mp (Option.some.inj k1)
 exact⟨cur,fz,⟨hlt,hob,h3,h4,k2,k3,k5 0 a rfl,k5 1 b rfl⟩,h1,h2⟩
theorem C4 {cargs:Array Value}{v:Value}(hs:cargs.size=1)(hv:cargs.getD 0 undef=v):cargs= #[v]:=by
 apply Array.ext
 ·simpa using hs
 ·intro j h1 h2
  have:j=0:=by omega
  subst this
  rw[Array.getD_eq_getD_getElem?,Array.getElem?_eq_getElem h1]at hv
  simpa using hv
theorem PR {lev i:Nat}{o:Ob}{args:List LV}(hlt:lev<μ.length)(h:aU μ lev i=o):aE (μ++[(aP args).lam]) lev i=o:=by
 rw[←h]
 exact ba hlt
theorem WG {b:Nat}{cur:Array Value}{e:TypeId}{fz:Nat×Nat}{k:Nat}(h:w.heap[b]? =some (.cells cur e fz))(hk:k<cur.size):w.cell? ⟨b,k,none⟩=some (cur.getD k undef):=by
 unfold World.cell?
 simp only[h]
 simp[Array.getD_eq_getD_getElem?,hk]
theorem TM {b:Nat}{cur:Array Value}{e:TypeId}{fz:Nat×Nat}{k:Nat}(h:w.heap[b]? =some (.cells cur e fz))(hk:k<cur.size)(hu:ec cur fz):w.frozen? ⟨b,k,none⟩=false:=by
 have:=hu k hk
 unfold World.frozen?
 simp only[h]
 simp
 omega
theorem Fa {args:List LV}{out:Out}(h:rM 130 args μ=some out):cR E.P W0 153 args μ out:=by
 unfold rM at h
 obtain⟨q,hq,h2⟩:=aZ h
 clear h
 obtain⟨u,hu,h⟩:=aZ h2
 clear h2
 have hargs:args=[q.1]:=by rw[cr hq,eq hu]
 rw[hargs]
 clear hargs hq hu
 obtain⟨x,y⟩:=q
 simp only at h ⊢
 split at h<;>try(cases h;done)
 rename_i lev i t n
 obtain⟨hg,h2⟩:=ex h
 clear h
 rw[Bool.and_eq_true]at hg
 have ht:=Nat.eq_of_beq_eq_true hg.1
 have hn:=Nat.eq_of_beq_eq_true hg.2
 subst ht hn
 refine⟨dC Tryz.func153 rfl (by kernel_rfl),fun G w cargs hs R hkn=> ?_⟩
 split at h2<;>try(cases h2;done)
 rename_i a b hob
 obtain⟨cur,fz,B,hin,hc0⟩:=ND R rfl hob
 have hca:=C4 (by simpa using hs) hc0
 have hlt:lev<μ.length:=B.lt
 have hcell:=WG (w:=w) B.heap (k:=0) (by rw[B.size];omega)
 split at h2<;>try(cases h2;done)
 ·
  injection h2 with h
  subst h
  have hva:=B.va
  simp only[LVR,VR]at hva
  rw[hva]at hcell
  have hfr:=TM (w:=w) B.heap (k:=0) (by rw[B.size];omega) B.unf
  have hsh:w.shape? (G.β lev i)=some (130,2):=by
   unfold World.shape?
   simp only[B.heap,B.size]
  have hset:bj μ lev i (.cells [.cv (.ref lev i 0),b])++[(aP [LV.cv (CV.tref lev i 130 2)]).lam]=bj (μ++[(aP [LV.cv (CV.tref lev i 130 2)]).lam]) lev i (.cells [.cv (.ref lev i 0),b]):=(mC hlt).symm
  obtain⟨w',hrun,R2,E2⟩:=R.writeOb (P:=Tryz.prog) (t:=127) (s1:=aP [LV.cv (CV.tref lev i 130 2)]) (μ1:=bj μ lev i (.cells [.cv (.ref lev i 0),b])) (lev:=lev) (i:=i) (off:=0) (v:= .cv (.ref lev i 0)) (cv:= .pointer (some ⟨G.β lev i,0,none⟩)) (o':= .cells [.cv (.ref lev i 0),b])
   (Ext.refl G w fun b h=>h) (PR hlt hob) (by kernel_rfl)
   ⟨fun e=>absurd e (Nat.ne_of_lt hlt),fun _=>by simp only[LVR,VR,Gh.below];exact⟨by simpa using hin,trivial⟩⟩
   (fun b hb=>by simp[aH]at hb) rfl rfl rfl iW.1 hset
  have hw:w'=w.setCell ⟨G.β lev i,0,none⟩ (.pointer (some ⟨G.β lev i,0,none⟩)):=by
   have h1:=Ql (p:=some ⟨G.β lev i,0,none⟩) hcell hfr
   rw[hrun]at h1
   injection h1
  rw[hca]
  refine(K0 (G.β lev i) w hcell hsh hfr).mono fun e w2 ⟨h1,h2⟩=> ?_
  subst h1
  rw[←hw]at h2
  subst h2
  obtain⟨R3,hT⟩:=R2.ret (v:= .ltup []) (cv:= .tuple #[]) ⟨#[],rfl,rfl⟩ (fun b h=>by simp[aH]at h)
  exact⟨G.O,R3,hca▸E2.weaken (fun _ h=>h) fun b hb=>hT b hb⟩
 ·
  rename_i l j
  obtain⟨hg2,h3⟩:=ex h2
  rw[Bool.and_eq_true]at hg2
  have hl:=Nat.eq_of_beq_eq_true hg2.1
  have hj:=Nat.eq_of_beq_eq_true hg2.2
  subst hl hj
  injection h3 with h
  subst h
  have hva:=B.va
  simp only[LVR,VR]at hva
  rw[hva.2]at hcell
  rw[hca]
  refine(NM (G.β l j) w hcell).mono fun e w2 ⟨h1,h2⟩=> ?_
  subst h1 h2
  obtain⟨R3,hT⟩:=R.ret (v:= .ltup []) (cv:= .tuple #[]) ⟨#[],rfl,rfl⟩ (fun b h=>by simp[aH]at h)
  exact⟨G.O,R3,Ext.refl G _ (hca▸hT)⟩
end
theorem H2 {b g cap:Nat}{l:List UInt8}{p:Value}{fzb:Nat×Nat}{cur:Array Value}{w:World}(hbk:w.heap[b]? =some (.cells #[p,.slice (some ⟨g,0,none⟩) l.length cap] 130 fzb))(h0:l≠[])(hg:w.heap[g]? =some (.cells cur 5 (0,0)))
  (hnc:l.length≤cap) (hcm:cap≤maxLen) (hsz:l.length≤cur.size) (hcells: ∀(j:Nat) x,l[j]? =some x→w.cell? ⟨g,j,none⟩=some (.int .u8 x.toNat)):
  Calls Tryz.prog 89 #[.pointer (some ⟨b,0,none⟩)] w fun e w'=>e= .returned (.string ⟨l.toArray⟩)∧w'=w.drew.freeze ⟨g,0,none⟩ l.length:=by
 have hl0:l.length≠0:=by simpa using h0
 have c1:w.drew.cell? ⟨b,1,none⟩=some (.slice (some ⟨g,0,none⟩) l.length cap):=by
  have:w.drew.heap[b]? =some (.cells #[p,.slice (some ⟨g,0,none⟩) l.length cap] 130 fzb):=hbk
  rw[Lib.cell_of_heap this];rfl
 have hSD:(Builtin.unsafeSliceData_ #[128] 170 #[.slice (some ⟨g,0,none⟩) l.length cap]).run Tryz.prog w.drew= .ok (.pointer (some ⟨g,0,none⟩)) w.drew:=
  Lib.run_unsafeSliceData_row _ _ _ _ _ _ (by omega)
 have hUS:(Builtin.unsafeString_ #[170,3] 9 #[.pointer (some ⟨g,0,none⟩),.int .i64 l.length]).run Tryz.prog w.drew= .ok (.string ⟨l.toArray⟩) (w.drew.freeze ⟨g,0,none⟩ l.length):=by
  refine Lib.run_unsafeString_row w.drew 170 3 9 5 Tryz.underlying170 Tryz.Builder_Extra_169.cellsByte g cur.size (by have hg':w.drew.heap[g]? =some (.cells cur 5 (0,0)):=hg;simp[World.shape?,hg']) l h0 (by omega) (by unfold maxLen at hcm;omega) ?_
  intro j x hx
  have:=hcells j x hx
  by_cases hj:j=0
  ·subst hj;simpa[Addr.add]using this
  ·simpa[Addr.add,hj]using this
 go_enter Tryz.func89,Tryz.ntmps89
 go_wp2
 go_region
 all_goals(go_wp2;go_ret;exact⟨rfl,rfl⟩)
theorem MD {b:Nat}{p:Value}{fzb:Nat×Nat}{w:World}(hbk:w.heap[b]? =some (.cells #[p,.slice none 0 0] 130 fzb)):
  Calls Tryz.prog 89 #[.pointer (some ⟨b,0,none⟩)] w fun e w'=>e= .returned (.string ⟨#[]⟩)∧w'=w.drew:=by
 have hUS: ∀W q,(Builtin.unsafeString_ #[170,3] 9 #[.pointer q,.int .i64 0]).run Tryz.prog W= .ok (.string .empty) W:=fun W q=>Lib.run_unsafeString_none W _ _ _ q
 have c1:w.drew.cell? ⟨b,1,none⟩=some (.slice none 0 0):=by
  have:w.drew.heap[b]? =some (.cells #[p,.slice none 0 0] 130 fzb):=hbk
  rw[Lib.cell_of_heap this];rfl
 have hSD:(Builtin.unsafeSliceData_ #[128] 170 #[.slice none 0 0]).run Tryz.prog w.drew= .ok (.pointer none) w.drew:=rfl
 go_enter Tryz.func89,Tryz.ntmps89
 go_wp2
 go_region
 all_goals(go_wp2;go_ret;exact⟨rfl,rfl⟩)
theorem Ia {b g:Nat}{p:Value}{fzb:Nat×Nat}{cur:Array Value}{e:TypeId}{w:World}(hbk:w.heap[b]? =some (.cells #[p,.slice (some ⟨g,0,none⟩) 0 0] 130 fzb))(hg:w.heap[g]? =some (.cells cur e (0,0))):
  Calls Tryz.prog 89 #[.pointer (some ⟨b,0,none⟩)] w fun e w'=>e= .returned (.string ⟨#[]⟩)∧w'=w.drew.alloc (.view ⟨g,0,none⟩ 5):=by
 have hUS: ∀W q,(Builtin.unsafeString_ #[170,3] 9 #[.pointer q,.int .i64 0]).run Tryz.prog W= .ok (.string .empty) W:=fun W q=>Lib.run_unsafeString_none W _ _ _ q
 have hlt:b<w.heap.size:=by
  rcases Nat.lt_or_ge b w.heap.size with h'|h'
  ·exact h'
  ·simp[Array.getElem?_eq_none h']at hbk
 have c1:w.drew.cell? ⟨b,1,none⟩=some (.slice (some ⟨g,0,none⟩) 0 0):=by
  have:w.drew.heap[b]? =some (.cells #[p,.slice (some ⟨g,0,none⟩) 0 0] 130 fzb):=hbk
  rw[Lib.cell_of_heap this];rfl
 have hSD:(Builtin.unsafeSliceData_ #[128] 170 #[.slice (some ⟨g,0,none⟩) 0 0]).run Tryz.prog w.drew= .ok (.pointer (some ⟨w.drew.heap.size,0,none⟩)) (w.drew.alloc (.view ⟨g,0,none⟩ 5)):=
  Lib.run_unsafeSliceData_zero w.drew _ _ 5 Tryz.underlying170 ⟨g,0,none⟩ 0 (e,cur.size) (by have hg':w.drew.heap[g]? =some (.cells cur e (0,0)):=hg;simp[World.shape?,hg'])
 have c2:(w.drew.alloc (.view ⟨g,0,none⟩ 5)).cell? ⟨b,1,none⟩=some (.slice (some ⟨g,0,none⟩) 0 0):=by
  have:(w.drew.alloc (.view ⟨g,0,none⟩ 5)).heap[b]? =_:=(Lib.alloc_old w.drew _ b hlt).trans hbk
  rw[Lib.cell_of_heap this];rfl
 have c3:(w.alloc (.view ⟨g,0,none⟩ 5)).drew.cell? ⟨b,1,none⟩=some (.slice (some ⟨g,0,none⟩) 0 0):=c2
 have c0:w.cell? ⟨b,1,none⟩=some (.slice (some ⟨g,0,none⟩) 0 0):=c1
 go_enter Tryz.func89,Tryz.ntmps89
 go_wp2
 go_region
 all_goals(go_wp2;go_ret;exact⟨rfl,rfl⟩)
section
variable {W0 w:World}{G:Gh}{L:Nat}{μ:Mu}
theorem uT {args:List LV}{cargs:Array Value}{μ':Mu}{G':Gh}{w':World}{T:Nat→Prop}{v:LV}{cv:Value}(R1:Rel G L (aP args) μ' cargs w)(hT1: ∀b,aB G w (aP args) μ' cargs b→T b)(hle:Le G w G' w')
  (hfr: ∀b,aB G w (aP args) μ' cargs b→w'.heap[b]? =w.heap[b]? ∧G'.O b=G.O b) (hG:G'=G.withO G'.O) (ho:w'.os=w.os) (ht:w'.tape=w.tape) (hu:w'.output=w.output) (hs:w.heap.size≤w'.heap.size)
  (hkeep: ∀b,b<w.heap.size→ ¬T b→w'.heap[b]? =w.heap[b]? ∧G'.O b=G.O b) (hv:LVR G' w' L 0 v cv) (hno: ∀b,¬aH v cv b):fK L T G w (.ret v μ') (.returned cv) w':=by
 have hβ: ∀lev i,G'.β lev i=G.β lev i∧G'.sz lev i=G.sz lev i:=by intro lev i;rw[hG];exact⟨rfl,rfl⟩
 have hn:G'.n=G.n:=by rw[hG];rfl
 obtain⟨R2,hO2⟩:=R1.frame hle hfr (fun lev i _=>hβ lev i) hn
 obtain⟨R3,hT3⟩:=R2.ret hv hno
 have htouch: ∀b,aB G' w' (aP [v]) μ' #[cv] b→T b:=by
  intro b hb
  rcases hT3 b hb with⟨q,h⟩|⟨lev,i,h,e⟩
  ·exact hT1 b (.inl ⟨q,hO2 q b h⟩)
  ·exact hT1 b (.inr ⟨lev,i,h,by rw[←(hβ lev i).1];exact e⟩)
 refine⟨G'.O,?_,?_⟩
 ·rw[←hG];exact R3
 ·rw[←hG]
  exact⟨hle,ho,ht,hu,hs,hkeep,fun b hb=> .inl (htouch b hb),fun l _=>⟨fun i=>hβ l i,by rw[hn]⟩⟩
theorem Gc {g n:Nat}{cur:Array Value}{e:TypeId}{fz:Nat×Nat}(hg:w.heap[g]? =some (.cells cur e fz)):
  (∀b,b≠g→(w.drew.freeze ⟨g,0,none⟩ n).heap[b]? =w.heap[b]?)∧(∃fz',(w.drew.freeze ⟨g,0,none⟩ n).heap[g]? =some (.cells cur e fz'))∧(w.drew.freeze ⟨g,0,none⟩ n).os=w.os∧(w.drew.freeze ⟨g,0,none⟩ n).tape=w.tape∧(w.drew.freeze ⟨g,0,none⟩ n).output=w.output∧(w.drew.freeze ⟨g,0,none⟩ n).heap.size=w.heap.size:=by
 have hg':w.drew.heap[g]? =some (.cells cur e fz):=hg
 unfold World.freeze
 split
 ·exact⟨fun b _=>rfl,⟨fz,hg'⟩,rfl,rfl,rfl,rfl⟩
 ·refine⟨fun b hb=> ?_,?_,rfl,rfl,rfl,by simp⟩
  ·simp only[Array.getElem?_modify]
   rw[if_neg (fun e=>hb e.symm)]
   rfl
  ·simp only[Array.getElem?_modify,if_true,hg',Option.map_some]
   exact⟨_,rfl⟩
def nK (l:List UInt8):List CV:=l.map fun(b:UInt8)=>CV.v (.int .u8 (b.toNat:Int))
theorem NE {l:List UInt8}:(nK l).length=l.length:=by simp[nK]
theorem rY: ∀{xs:List CV} {s:List UInt8},bn xs=some s→xs=nK s
 |[],s,h=>by injection h with h;subst h;rfl
 |x::r,s,h=>by
  unfold bn at h
  split at h
  ·rename_i heq;cases heq
  ·rename_i n r' heq
   injection heq with e1 e2
   subst e1 e2
   split at h
   ·rename_i hd
    obtain⟨l,hl,h2⟩:=aZ h
    injection h2 with h2
    subst h2
    have ih:=rY hl
    rw[ih]
    simp only[Bool.and_eq_true,decide_eq_true_eq]at hd
    have hn:((UInt8.ofNat n.toNat).toNat:Int)=n:=by
     rw[UInt8.toNat_ofNat_of_lt' (by show n.toNat<256;omega)]
     omega
    show _=CV.v (.int .u8 ((UInt8.ofNat n.toNat).toNat:Int))::nK l
    rw[hn]
   ·cases h
  ·cases h
theorem PS {args:List LV}{out:Out}(h:AD 130 args μ=some out):cR E.P W0 89 args μ out:=by
 unfold AD at h
 obtain⟨q,hq,h2⟩:=aZ h
 clear h
 obtain⟨u,hu,h⟩:=aZ h2
 clear h2
 have hargs:args=[q.1]:=by rw[cr hq,eq hu]
 rw[hargs]
 clear hargs hq hu
 obtain⟨x,y⟩:=q
 simp only at h ⊢
 split at h<;>try(cases h;done)
 rename_i lev i t n
 obtain⟨hg,h2⟩:=ex h
 clear h
 rw[Bool.and_eq_true]at hg
 have ht:=Nat.eq_of_beq_eq_true hg.1
 have hn:=Nat.eq_of_beq_eq_true hg.2
 subst ht hn
 refine⟨dC Tryz.func89 rfl (by kernel_rfl),fun G w cargs hs R hkn=> ?_⟩
 split at h2<;>try(cases h2;done)
 rename_i a b hob
 obtain⟨xs,hxs,h3⟩:=aZ h2
 obtain⟨s,hbs,h4⟩:=aZ h3
 injection h4 with h4
 subst h4
 obtain⟨cur,fz,B,hin,hc0⟩:=ND R rfl hob
 have hca:=C4 (by simpa using hs) hc0
 have hlt:lev<μ.length:=B.lt
 have hot:=PR (args:=[LV.cv (CV.tref lev i 130 2)]) hlt hob
 have hl:aK (aE (μ++[(aP [LV.cv (CV.tref lev i 130 2)]).lam]) lev i):=by rw[hot];trivial
 obtain⟨R1,_,hT,hO1,hO2,hlv⟩:=R.setOb (s1:=aP [LV.cv (CV.tref lev i 130 2)]) (μ1:=bj μ lev i .dead) (o':= .dead) (cur':=cur) hl B.heap rfl rfl rfl rfl iW.1 (mC hlt).symm
  (fun G' w' _ _ _=>⟨fun _=>trivial,fun _=>trivial⟩) (fun cs' k b h=>by cases h)
 rw[setRow_self w _ cur 130 fz B.heap]at R1 hT hO1 hO2
 have hT1: ∀b,aB G w (aP [LV.cv (CV.tref lev i 130 2)]) (bj μ lev i .dead) cargs b→aB G w (aP [LV.cv (CV.tref lev i 130 2)]) μ cargs b:=by
  intro b hb
  rcases hT b hb with h|⟨cs',k,h,_⟩
  ·exact h
  ·cases h
 obtain⟨hown,howns⟩:=jh hxs B.vb
 have hp1: ∃p,w.heap[G.β lev i]? =some (.cells #[p,cur.getD 1 undef] 130 fz):=by
  refine⟨cur.getD 0 undef,?_⟩
  rw[B.heap]
  congr 2
  apply Array.ext
  ·exact B.size
  ·intro j h1 h2
   have hsz:=B.size
   have:j=0∨j=1:=by omega
   rcases this with rfl|rfl
   ·simp[Array.getD_eq_getD_getElem?,hsz]
   ·simp[Array.getD_eq_getD_getElem?,hsz]
 obtain⟨p,hbk⟩:=hp1
 rw[hca]
 rcases hown with⟨hx0,hv0⟩|⟨g,cap,cur2,e2,sz,hv,hg,h1,h2',h3',h4,h5,h6,h7,h8⟩
 ·
  subst hx0
  have hs0:s=[]:=by injection hbs with h;exact h.symm
  subst hs0
  rw[hv0]at hbk
  refine(MD hbk).mono fun e w2 ⟨k1,k2⟩=> ?_
  subst k1 k2
  rw[←hca]
  exact uT R1 hT1 ⟨fun _ _ _ h hb=>⟨h,hb⟩,fun _ _ h=>⟨h,rfl,rfl⟩,fun _ _ _ h hc=>⟨h,hc⟩,fun b cur e fz h=>⟨cur,fz,h,rfl⟩⟩ (fun b _=>⟨rfl,rfl⟩) rfl rfl rfl rfl (Nat.le_refl _) (fun b _ _=>⟨rfl,rfl⟩) rfl (fun b h=>by simp[aH]at h)
 ·rw[hv]at hbk
  have hob1:ay G w (aP [LV.cv (CV.tref lev i 130 2)]).fr cargs (μ++[(aP [LV.cv (CV.tref lev i 130 2)]).lam]) (.ob lev i 1) g:=by
   simp only[ay,hot]
   refine⟨cur,130,fz,B.heap,?_⟩
   have:=howns g (by rw[hv];simp[aH])
   exact this
  have hTg:aB G w (aP [LV.cv (CV.tref lev i 130 2)]) μ cargs g:= .inl ⟨_,hob1⟩
  have hne: ∀b,aB G w (aP [LV.cv (CV.tref lev i 130 2)]) (bj μ lev i .dead) cargs b→b≠g:=by
   intro b hb e
   subst e
   rcases hb with⟨q,hb⟩|⟨l,j,hb,e⟩
   ·rcases hO1 q b hb with h|⟨cs',k,h,_⟩
    ·have hq:=R.own q (.ob lev i 1) b h hob1
     subst hq
     obtain⟨cs',h,_⟩:=hO2 1 b hb
     cases h
    ·cases h
   ·exact R.apart (.ob lev i 1) b l j hob1 (hlv l j hb) e
  by_cases hx0:xs=[]
  ·subst hx0
   have hs0:s=[]:=by injection hbs with h;exact h.symm
   subst hs0
   have hcap:=h5 rfl
   subst hcap
   refine(Ia hbk hg).mono fun e w2 ⟨k1,k2⟩=> ?_
   subst k1 k2
   rw[←hca]
   have hle:=qv (G:=G) (w:=w.drew) (.view ⟨g,0,none⟩ 5) 0
   have hle2:Le G w (G.setO w.drew.heap.size 0) (w.drew.alloc (.view ⟨g,0,none⟩ 5)):=⟨hle.map,hle.ref,hle.imm,hle.blk⟩
   have hold: ∀b,b<w.heap.size→(w.drew.alloc (.view ⟨g,0,none⟩ 5)).heap[b]? =w.heap[b]? ∧(G.setO w.drew.heap.size 0).O b=G.O b:=fun b hb=>⟨heap_alloc_old w.drew _ hb,bS (Nat.ne_of_lt hb)⟩
   exact uT R1 hT1 hle2 (fun b hb=>hold b (R1.touch_lt hb)) rfl rfl rfl rfl (by simp[World.alloc]) (fun b hb _=>hold b hb) rfl (fun b h=>by simp[aH]at h)
  ·have he:e2=5:=h8 (by rw[hbs];rfl) hx0
   subst he
   have hxs2:=rY hbs
   have hlen:xs.length=s.length:=by rw[hxs2,NE]
   have hs0:s≠[]:=by
    intro h
    rw[h]at hlen
    exact hx0 (List.eq_nil_of_length_eq_zero hlen)
   have hsz1:sz=1:=by
    cases xs with
    |nil=>exact absurd rfl hx0
    |cons c r=>
     have:=h4 c List.mem_cons_self
     have hc:c∈nK s:=by rw[←hxs2];exact List.mem_cons_self
     obtain⟨b,_,rfl⟩:=List.mem_map.1 hc
     exact this.symm
   subst hsz1
   obtain⟨olds,ho1,ho2⟩:=pA h6 h4
   have hcells: ∀(j:Nat) x,s[j]? =some x→w.cell? ⟨g,j,none⟩=some (.int .u8 x.toNat):=by
    intro j x hx
    have hflat:xs.flatMap CV.cells=nK s:=by rw[hxs2];exact ri s
    rw[hflat]at ho1
    obtain⟨v,hv1,hv2⟩:=(dp ho1).2 j (CV.int .u8 (x.toNat:Int)) (by simp[nK,hx])
    simp only[VR]at hv2
    subst hv2
    have:=(ho2 j _ hv1).1
    simpa using this
   rw[hlen]at hbk h1
   refine(H2 hbk hs0 hg h1 h2' (by omega) hcells).mono fun e w2 ⟨k1,k2⟩=> ?_
   subst k1 k2
   rw[←hca]
   obtain⟨f1,⟨fz',f2⟩,f3,f4,f5,f6⟩:=Gc (n:=s.length) hg
   have hle:Le G w G (w.drew.freeze ⟨g,0,none⟩ s.length):=by
    refine⟨fun b es clk h hb=> ?_,fun _ _ h=>⟨h,rfl,rfl⟩,fun b off v h hc=>⟨h,?_⟩,fun b c e fz h=> ?_⟩
    ·have hb2:b≠g:=fun e=>by subst e;rw[hg]at hb;cases hb
     exact⟨h,by rw[f1 b hb2];exact hb⟩
    ·rw[←hc]
     unfold World.cell?
     by_cases hb2:b=g
     ·subst hb2
      simp only[f2,hg]
     ·simp only[f1 b hb2]
    ·by_cases hb2:b=g
     ·subst hb2
      rw[hg]at h
      obtain⟨rfl,rfl,rfl⟩:=(Obj.cells.injEq ..).mp (Option.some.inj h)
      exact⟨_,fz',f2,rfl⟩
     ·exact⟨c,fz,by rw[f1 b hb2];exact h,rfl⟩
   exact uT R1 hT1 hle (fun b hb=>⟨f1 b (hne b hb),rfl⟩) rfl f3 f4 f5 (by rw[f6];exact Nat.le_refl _) (fun b _ hn=>⟨f1 b (fun e=>hn (e▸hTg)),rfl⟩) rfl (fun b h=>by simp[aH]at h)
theorem V9:E.P.follows .mixedOrders=true:=by kernel_rfl
end
end Go.Abs
namespace Go.Proofs
open Go.RowKit Go.Shelf
attribute [local go_sem] Oper.semAt_some
def Tog.upto {α:Type}(f:Nat→α)(k:Nat):List α:=(List.range k).map f
theorem Tog.upto_succ {α:Type}(f:Nat→α)(k:Nat):Tog.upto f (k+1)=Tog.upto f k++[f k]:=by simp[Tog.upto,List.range_succ]
theorem Tog.upto_length {α:Type}(f:Nat→α)(k:Nat):(Tog.upto f k).length=k:=by simp[Tog.upto]
def Tog.bk (zs:List Int)(k:Nat):Int×Int:=((zs.length:Int) -1-k,(zs[zs.length-1-k]?).getD 0)
def Tog.Kp (n₀ Bs:Nat)(W W':World):Prop:=Below n₀ W W'∧W'.cell? ⟨Bs,0,none⟩=W.cell? ⟨Bs,0,none⟩
theorem Tog.Kp.refl (n₀ Bs:Nat)(W:World):Tog.Kp n₀ Bs W W:=⟨Below.refl _ _,rfl⟩
theorem Tog.Kp.trans {n₀ Bs:Nat}{A B C:World}(h:Tog.Kp n₀ Bs A B)(k:Tog.Kp n₀ Bs B C):Tog.Kp n₀ Bs A C:=⟨h.1.trans k.1,k.2.trans h.2⟩
theorem Tog.Kp.put {n₀ Bs:Nat}{w:World}(hn:n₀≤w.heap.size)(hB:Bs<w.heap.size)(W:World)(l:Nat)(o o':Obj)(hl:w.heap.size≤l)(h:W.heap[l]? =some o)(h1:o.isCells=false)(h2:o.isWalk=false):Tog.Kp n₀ Bs W (W.putObj l o'):=by
 refine⟨belowK_b hn W l o o' hl h h1 h2,?_⟩
 unfold World.cell?
 rw[World.putObj_heap_other (by show Bs≠l;omega)]
set_option maxRecDepth 100000 in
set_option maxHeartbeats 4000000 in
theorem Tog.back1_in (F:Fence)(n:Nat)(h7:F.fn 166)(hro:F.round=none)(hn:1≤n)(l Bs n₀ b off cap:Nat)(zs:List Int)(hreach:zs.length*8≤140737488351232)(hb:b<n₀)(J Jx:List (Int×Int)→World→Prop)
  (hY : ∀ pre x W, J pre W → pre.length < zs.length → YieldAt F (n - 1) Tryz.prog l #[.int .i64 x.1, .int .i64 x.2] W fun e W' =>
   (e= .returned (.bool true)∧J (pre++[x]) W'∧Tog.Kp n₀ Bs W W')∨(e= .returned (.bool false)∧Jx (pre++[x]) W'))
  (W:World) (hBs:W.cell? ⟨Bs,0,none⟩=some (.slice (some ⟨b,off,none⟩) zs.length cap)) (hc: ∀j,j<zs.length→W.cell? ⟨b,off+j,none⟩=some (.int .i64 (zs[j]?.getD 0))) (h0:J [] W):
  CallsIn F n Tryz.prog 166 #[.func (.yield l) #[] #[],.pointer (some ⟨Bs,0,none⟩)] W fun e W'=>(∃v,e= .returned v)∧
   ((∃ys,ys=Tog.upto (Tog.bk zs) zs.length∧J ys W')∨(∃pre,(∃k,k≤zs.length∧pre=Tog.upto (Tog.bk zs) k)∧Jx pre W')):=by
 refine callsIn_of_wp Tryz.func166 rfl h7 ?_ hro
 simp only[Tryz.ntmps166,List.size_toArray,List.length_cons,List.length_nil,Nat.reduceAdd,Nat.reduceSub,Array.replicate_succ,Array.replicate_zero,List.push_toArray,List.append_toArray,List.nil_append,List.cons_append]
 gi_wp2
 gi_loopw [3] (fun i wr=> ∃k:Nat,k≤zs.length∧i= .int .i64 ((zs.length:Int) -1-k)∧J (Tog.upto (Tog.bk zs) k) wr∧Tog.Kp n₀ Bs W wr)
  (fun i _=>(intOf i+1).toNat)
 case atStart=>exact⟨0,Nat.zero_le _,by simp,h0,Tog.Kp.refl _ _ _⟩
 case round=>
  obtain⟨k,hk,rfl,hJs,hnx⟩:=hrel
  have hbx:=hnx.2.trans hBs
  have hcx: ∀j,j<zs.length→wr.cell? ⟨b,off+j,none⟩=some (.int .i64 (zs[j]?.getD 0)):=fun j h=>(hnx.1.cell (p:=⟨b,off+j,none⟩) hb).trans (hc j h)
  by_cases hlt:k<zs.length
  ·obtain⟨m,hm1,hm2⟩: ∃m:Nat,m+k+1≤zs.length∧zs.length≤m+k+1:=⟨zs.length-1-k,by omega,by omega⟩
   have hmz:m<zs.length:=by omega
   have e1:((zs.length:Int) -1-k)=(m:Int):=by omega
   have e2:Tog.bk zs k=((m:Int),(zs[m]?).getD 0):=by
    unfold Tog.bk
    rw[e1,show zs.length-1-k=m by omega]
   rw[e1]
   clear e1
   obtain⟨fn,tmps,assign,body,hy,hR⟩:=hY _ (Tog.bk zs k) wr hJs (by rw[Tog.upto_length];exact hlt)
   rw[e2]at hy
   clear e2
   have hcx':=hcx m hmz
   obtain⟨y,hyv⟩: ∃y,y=(zs[m]?).getD 0:=⟨_,rfl⟩
   rw[←hyv]at hy hcx'
   clear hyv hcx
   dsimp only at hy
   gi_wp2
   refine hR.mono ?_
   rintro e W3 (⟨rfl,hJ3,hk3⟩|⟨rfl,hJx3⟩)
   ·gi_wp2
    go_roundw
    case rel=>exact⟨k+1,by omega,by congr 1;omega,by rw[Tog.upto_succ];exact hJ3,hnx.trans hk3⟩
    case measure=>first|(simp[intOf];done)|(simp[intOf];omega)
   ·gi_wp2
    refine bodyPost_ret (results_none rfl _ _ _) rfl ?_
    exact⟨⟨_,rfl⟩,.inr ⟨_,⟨k+1,by omega,(Tog.upto_succ _ _).symm⟩,hJx3⟩⟩
  ·obtain rfl:k=zs.length:=by omega
   have e1:((zs.length:Int) -1-(zs.length:Nat))= -1:=by omega
   rw[e1]
   gi_wp2
   go_end0
   exact⟨⟨_,rfl⟩,.inl ⟨_,rfl,hJs⟩⟩
set_option maxRecDepth 100000 in
set_option maxHeartbeats 1000000 in
theorem Tog.back1_nil_in (F:Fence)(n:Nat)(h8:F.fn 166)(hro:F.round=none)(l Bs:Nat)(a:Option Addr)(cap:Nat)(J:List (Int×Int)→World→Prop)(W:World)(hBs:W.cell? ⟨Bs,0,none⟩=some (.slice a 0 cap))(h0:J [] W):
  CallsIn F n Tryz.prog 166 #[.func (.yield l) #[] #[],.pointer (some ⟨Bs,0,none⟩)] W fun e W'=>(∃v,e= .returned v)∧J [] W':=by
 refine callsIn_of_wp Tryz.func166 rfl h8 ?_ hro
 simp only[Tryz.ntmps166,List.size_toArray,List.length_cons,List.length_nil,Nat.reduceAdd,Nat.reduceSub,Array.replicate_succ,Array.replicate_zero,List.push_toArray,List.append_toArray,List.nil_append,List.cons_append]
 gi_wp2
 gi_loopw [3] (fun i wr=>i= .int .i64 (-1)∧J [] wr) (fun _ _=>0)
 case atStart=>exact⟨rfl,h0⟩
 case round=>
  obtain⟨rfl,hJs⟩:=hrel
  gi_wp2
  go_end0
  exact⟨⟨_,rfl⟩,hJs⟩
set_option maxHeartbeats 1000000 in
theorem Tog.back_in (F:Fence)(n:Nat)(h6:F.fn 150)(hro:F.round=none)(a:Option Addr)(len cap:Nat)(w:World):
  CallsIn F n Tryz.prog 150 #[.slice a len cap] w fun e w'=>e= .returned (.func (.func 166) #[] #[.pointer (some ⟨w.heap.size,0,none⟩)])∧w'=w.alloc (.cells #[.slice a len cap] 55):=by
 refine callsIn_of_wp Tryz.func150 rfl h6 ?_ hro
 simp only[Tryz.ntmps150,List.size_toArray,List.length_cons,List.length_nil,Nat.reduceAdd,Nat.reduceSub,Array.replicate_succ,Array.replicate_zero,List.push_toArray,List.append_toArray,List.nil_append,List.cons_append]
 gi_wp2
 go_ret
 exact⟨rfl,rfl⟩
def Tog.Ints (n₀:Nat)(W:World)(sv:Value)(zs:List Int):Prop:=
 ((∃a cap,sv= .slice a 0 cap)∧zs=[])∨ ∃b off cap,sv= .slice (some ⟨b,off,none⟩) zs.length cap∧b<n₀∧ ∀j,j<zs.length→W.cell? ⟨b,off+j,none⟩=some (.int .i64 (zs[j]?.getD 0))
theorem Tog.Ints.below {n₀:Nat}{A B:World}(h:Below n₀ A B){sv:Value}{zs:List Int}:Tog.Ints n₀ A sv zs→Tog.Ints n₀ B sv zs
 | .inl e=> .inl e
 | .inr ⟨b,off,cap,e,hb,hc⟩=> .inr ⟨b,off,cap,e,hb,fun j hj=>(h.cell (p:=⟨b,off+j,none⟩) hb).trans (hc j hj)⟩
theorem Tog.back_stops (F:Fence)(n:Nat)(h8:F.fn 166)(hro:F.round=none)(hn:1≤n)(Bs n₀:Nat)(sv:Value)(zs:List Int)(hreach:zs.length*8≤140737488351232)(w:World)(hBs:Bs<w.heap.size)(hn₀:n₀≤w.heap.size)
  (hc:w.cell? ⟨Bs,0,none⟩=some sv) (hI:Tog.Ints n₀ w sv zs):
  SeqStopsK F n Tryz.prog 166 #[.pointer (some ⟨Bs,0,none⟩)] (fun x:Int×Int=> #[Value.int .i64 x.1,Value.int .i64 x.2]) (Tog.Kp n₀ Bs) (fun ys=>ys=Tog.upto (Tog.bk zs) zs.length)
   (fun pre=> ∃k,k≤zs.length∧pre=Tog.upto (Tog.bk zs) k) zs.length w:=fun l J Jx W hW _ _ hY h0=>by
 have hc':=(hW.cell (p:=⟨Bs,0,none⟩) hBs).trans hc
 rcases hI.below (hW.mono hn₀)with⟨⟨a,cap,rfl⟩,rfl⟩|⟨b,off,cap,rfl,hb,hcs⟩
 ·exact(Tog.back1_nil_in F n h8 hro l Bs a cap J W hc' h0).mono fun e W' ⟨he,hj⟩=>⟨he,.inl ⟨_,rfl,hj⟩⟩
 ·exact Tog.back1_in F n h8 hro hn l Bs n₀ b off cap zs hreach hb J Jx hY W hc' hcs h0
theorem Tog.st_snoc (f l:List Int)(a nx:Int):Go.Abs.togSt f (l++[a]) nx=(Go.Abs.togSt f l nx).bind fun x=>Go.Abs.togStep f x a:=by
 simp[Go.Abs.togSt,List.foldlM_append]
theorem Tog.st_none (f l r:List Int)(nx:Int)(h:Go.Abs.togSt f l nx=none):Go.Abs.togSt f (l++r) nx=none:=by
 simp only[Go.Abs.togSt,List.foldlM_append]at h ⊢
 rw[h]
 rfl
theorem Tog.upto_rev (zs:List Int):(Tog.upto (Tog.bk zs) zs.length).map Prod.snd=zs.reverse:=by
 apply List.ext_getElem
 ·simp[Tog.upto]
 ·intro i h1 h2
  have hi:i<zs.length:=by simpa[Tog.upto]using h1
  have h3:zs.length-1-i<zs.length:=by omega
  simp[Tog.upto,Tog.bk,h3]
theorem Tog.upto_pre (zs:List Int){k:Nat}(hk:k≤zs.length): ∃r,zs.reverse=(Tog.upto (Tog.bk zs) k).map Prod.snd++r:=by
 refine⟨zs.reverse.drop k,?_⟩
 rw[←Tog.upto_rev]
 have:(Tog.upto (Tog.bk zs) k)=(Tog.upto (Tog.bk zs) zs.length).take k:=by
  simp only[Tog.upto,←List.map_take,List.take_range,Nat.min_eq_left hk]
 rw[this,List.map_take,List.take_append_drop]
def Tog.ok (f:List Int):Prop:= ∀v∈f,0≤v∧v≤f.length
theorem Tog.step_ok {f:List Int}(hf:Tog.ok f){nx a v:Int}(h0:0≤nx)(h1:nx≤f.length)(h:Go.Abs.togStep f nx a=some v):0≤v∧v≤f.length:=by
 unfold Go.Abs.togStep at h
 split at h
 ·injection h with h;omega
 ·split at h
  ·rename_i h2 h3
   injection h with h
   have hlt:a.toNat<f.length:=by omega
   rw[List.getElem?_eq_getElem hlt]at h
   have:=hf _ (List.getElem_mem hlt)
   simp only[Option.getD_some]at h
   omega
  ·cases h
theorem Tog.far (w:World)(p a:Addr)(v:Value)(h:p.block≠a.block):(w.setCell p v).cell? a=w.cell? a:=World.cell?_setCell_other w p a v (fun e=>h (by rw[e]))
structure Tog.Inv (w:World) (sv:Value) (nx r0:Int) (r1:Bool) (W:World):Prop where
 b:Below w.heap.size w W
 c0:W.cell? ⟨w.heap.size,0,none⟩=some sv
 c1:W.cell? ⟨w.heap.size+1,0,none⟩=some (.int .i64 r0)
 f1:W.frozen? ⟨w.heap.size+1,0,none⟩=false
 c2:W.cell? ⟨w.heap.size+1+1,0,none⟩=some (.bool r1)
 f2:W.frozen? ⟨w.heap.size+1+1,0,none⟩=false
 c3:W.cell? ⟨w.heap.size+1+1+1,0,none⟩=some (.int .i64 nx)
 f3:W.frozen? ⟨w.heap.size+1+1+1,0,none⟩=false
theorem Tog.Inv.grow {w W W':World}{sv:Value}{nx r0:Int}{r1:Bool}{row:Option Nat}(h:Tog.Inv w sv nx r0 r1 W)(hg:W.grownBy W' row)(hr: ∀r,row=some r→w.heap.size≤r∧ ∃o:Obj,W.heap[r]? =some o∧o.isCells=false):Tog.Inv w sv nx r0 r1 W':=by
 have hr2: ∀r,row=some r→ ∃o:Obj,W.heap[r]? =some o∧o.isCells=false:=fun r e=>(hr r e).2
 exact⟨h.b.grown hg h.b.size (fun k e=>(hr k e).1),cell_kept h.c0 hg hr2,cell_kept h.c1 hg hr2,(frozen_kept h.c1 hg hr2).trans h.f1,cell_kept h.c2 hg hr2,(frozen_kept h.c2 hg hr2).trans h.f2,cell_kept h.c3 hg hr2,(frozen_kept h.c3 hg hr2).trans h.f3⟩
theorem Tog.Inv.next {w W:World}{sv:Value}{nx r0:Int}{r1:Bool}(h:Tog.Inv w sv nx r0 r1 W)(v:Int):Tog.Inv w sv v r0 r1 (W.setCell ⟨w.heap.size+1+1+1,0,none⟩ (.int .i64 v)):=by
 refine⟨h.b.setCell (by show _≤w.heap.size+1+1+1;omega) _,?_,?_,?_,?_,?_,?_,?_⟩
 ·rw[Tog.far _ _ _ _ (by first|(simp;done)|(simp;omega))];exact h.c0
 ·rw[Tog.far _ _ _ _ (by first|(simp;done)|(simp;omega))];exact h.c1
 ·rw[World.frozen?_setCell];exact h.f1
 ·rw[Tog.far _ _ _ _ (by first|(simp;done)|(simp;omega))];exact h.c2
 ·rw[World.frozen?_setCell];exact h.f2
 ·exact World.cell?_setCell_same' _ _ _ (by rw[h.c3];rfl)
 ·rw[World.frozen?_setCell];exact h.f3
theorem Tog.Inv.res {w W:World}{sv:Value}{nx r0:Int}{r1:Bool}(h:Tog.Inv w sv nx r0 r1 W)(v:Int)(c:Bool):
  Tog.Inv w sv nx v c ((W.setCell ⟨w.heap.size+1,0,none⟩ (.int .i64 v)).setCell ⟨w.heap.size+1+1,0,none⟩ (.bool c)):=by
 refine⟨(h.b.setCell (by show _≤w.heap.size+1;omega) _).setCell (by show _≤w.heap.size+1+1;omega) _,?_,?_,?_,?_,?_,?_,?_⟩
 ·rw[Tog.far _ _ _ _ (by first|(simp;done)|(simp;omega)),Tog.far _ _ _ _ (by first|(simp;done)|(simp;omega))];exact h.c0
 ·rw[Tog.far _ _ _ _ (by first|(simp;done)|(simp;omega))];exact World.cell?_setCell_same' _ _ _ (by rw[h.c1];rfl)
 ·rw[World.frozen?_setCell,World.frozen?_setCell];exact h.f1
 ·exact World.cell?_setCell_same' _ _ _ (by rw[Tog.far _ _ _ _ (by first|(simp;done)|(simp;omega)),h.c2];rfl)
 ·rw[World.frozen?_setCell,World.frozen?_setCell];exact h.f2
 ·rw[Tog.far _ _ _ _ (by first|(simp;done)|(simp;omega)),Tog.far _ _ _ _ (by first|(simp;done)|(simp;omega))];exact h.c3
 ·rw[World.frozen?_setCell,World.frozen?_setCell];exact h.f3
set_option maxRecDepth 100000 in
set_option maxHeartbeats 4000000 in
theorem Tog.body_in (F:Fence)(l n b off cap len cap2 len2:Nat)(a2:Option Addr)(m:Nat)(y nx0 x1:Int)(B:Nat)(w W:World)(Q:Exit→Act→World→Prop)(hm:m<len)(hr:len*8≤140737488351232)
  (c0:W.cell? ⟨B,0,none⟩=some (.slice (some ⟨b,off,none⟩) len cap)) (c3:W.cell? ⟨B+1+1+1,0,none⟩=some (.int .i64 ((m:Int)+1))) (f3:W.frozen? ⟨B+1+1+1,0,none⟩=false)
  (hcm:W.cell? ⟨b,off+m,none⟩=some (.int .i64 y)) (hn: ∀a,Q .normal a (W.setCell ⟨B+1+1+1,0,none⟩ (.int .i64 y))):
  Code.wpIn (F.inRound l) (n - 1 - 1) Tryz.prog (Code.block 1 (((Code.region 4 #[{ dst := some 16, op := Op.move (Operand.tmp 10), type := 3, pos := "expr.go:108", after := #[], guard := none }, { dst := some 17, op := Op.binOp BinOp.eql 3 (Operand.tmp 16) (Operand.const (Value.int IntKind.i64 (-1))) 3, type := 4, pos := "expr.go:108", after := #[{ on := 0, ground := Ground.data }], guard := none }] false).seq (Code.cond (Operand.tmp 17) (Code.exit 1) Code.skip)).seq (((Code.region 5 #[{ dst := some 18, op := Op.move (Operand.tmp 10), type := 3, pos := "expr.go:111", after := #[], guard := none }, { dst := some 19, op := Op.load 3 (Operand.tmp 8), type := 3, pos := "expr.go:111", after := #[], guard := none }, { dst := some 20, op := Op.binOp BinOp.sub 3 (Operand.tmp 19) (Operand.const (Value.int IntKind.i64 1)) 3, type := 3, pos := "expr.go:111", after := #[{ on := 1, ground := Ground.data }], guard := none }, { dst := some 21, op := Op.binOp BinOp.neq 3 (Operand.tmp 18) (Operand.tmp 20) 3, type := 4, pos := "expr.go:111", after := #[{ on := 0, ground := Ground.data }, { on := 2, ground := Ground.data }], guard := none }] false).seq (Code.cond (Operand.tmp 21) ((Code.region 6 #[{ dst := none, op := Op.store 3 (Operand.tmp 6) (Operand.const (Value.int IntKind.i64 0)), type := 0, pos := "expr.go:112", after := #[], guard := none }, { dst := none, op := Op.store 4 (Operand.tmp 7) (Operand.const (Value.bool false)), type := 0, pos := "expr.go:112", after := #[{ on := 0, ground := Ground.chain }, { on := 0, ground := Ground.phase }], guard := none }] false).seq Code.ret) Code.skip)).seq (Code.region 7 #[{ dst := some 22, op := Op.load 55 (Operand.tmp 3), type := 55, pos := "expr.go:114", after := #[], guard := none }, { dst := some 23, op := Op.move (Operand.tmp 10), type := 3, pos := "expr.go:114", after := #[], guard := none }, { dst := some 24, op := Op.indexAddr 55 (Operand.tmp 22) (Operand.tmp 23), type := 0, pos := "expr.go:114", after := #[{ on := 0, ground := Ground.data }, { on := 1, ground := Ground.data }], guard := none }, { dst := some 25, op := Op.load 3 (Operand.tmp 24), type := 3, pos := "expr.go:114", after := #[{ on := 2, ground := Ground.data }], guard := none }, { dst := none, op := Op.store 3 (Operand.tmp 8) (Operand.tmp 25), type := 0, pos := "expr.go:114", after := #[{ on := 3, ground := Ground.data }, { on := 0, ground := Ground.phase }, { on := 1, ground := Ground.phase }, { on := 2, ground := Ground.phase }, { on := 3, ground := Ground.phase }], guard := none }] false)))) Q (Act.mk #[Value.slice (some { block := b, off := off }) len cap, Value.slice a2 len2 cap2, Value.int IntKind.i64 nx0,
     Value.pointer (some {block:=B,off:=0}),undef,undef,
     Value.pointer (some {block:=B+1,off:=0}),
     Value.pointer (some {block:=B+1+1,off:=0}),
     Value.pointer (some {block:=B+1+1+1,off:=0}),undef,.int .i64 (m:Int),Value.int IntKind.i64 nx0,
     Value.slice a2 len2 cap2,
     Value.func (Fn.func 166) #[] #[Value.pointer (some {block:=B+1+1+1+1,off:=0})],
     .int .i64 x1,.int .i64 (m:Int),undef,undef,undef,undef,undef,undef,undef,undef,undef,undef,undef] []) W:=by
 have hm2: ¬((m:Int)= -1):=by omega
 gi_wp2
 exact hn _
set_option maxRecDepth 100000 in
set_option maxHeartbeats 4000000 in
theorem Tog.together_in (F:Fence)(n:Nat)(h4:F.fn 117)(h6:F.fn 150)(h8:F.fn 166)(hro:F.round=none)(hn:3≤n)(a1 a2:Option Addr)(len1 cap1 len2 cap2:Nat)(f zs:List Int)
  (hreach:zs.length*8≤140737488351232) (hreach1:f.length*8≤140737488351232) (hf:Tog.ok f) (nx0:Int) (hx0:0≤nx0) (hx1:nx0≤f.length) (w:World) (hI1:Tog.Ints w.heap.size w (.slice a1 len1 cap1) f) (hI2:Tog.Ints w.heap.size w (.slice a2 len2 cap2) zs):
  CallsIn F n Tryz.prog 117 #[.slice a1 len1 cap1,.slice a2 len2 cap2,.int .i64 nx0] w fun e W'=>
   e= .returned (match Go.Abs.togSt f zs.reverse nx0 with|some v=> .tuple #[.int .i64 v,.bool true]|none=> .tuple #[.int .i64 0,.bool false])∧Below w.heap.size w W':=by
 have h1:1≤n:=by omega
 obtain⟨rv,hrv⟩: ∃rv,rv=(match Go.Abs.togSt f zs.reverse nx0 with|some v=>Value.tuple #[.int .i64 v,.bool true]|none=>Value.tuple #[.int .i64 0,.bool false]):=⟨_,rfl⟩
 rw[←hrv]
 refine callsIn_of_wp_marks Tryz.func117 rfl h4 ?_ hro
 simp only[Tryz.ntmps117,List.size_toArray,List.length_cons,List.length_nil,Nat.reduceAdd,Nat.reduceSub,Array.replicate_succ,Array.replicate_zero,List.push_toArray,List.append_toArray,List.nil_append,List.cons_append]
 gi_wp2_with (gi_at_call 150;refine(Tog.back_in F (n-1) h6 hro _ _ _ _).mono ?_;rintro e w' ⟨rfl,rfl⟩)
 obtain⟨w5,hw5⟩: ∃w5,w5=((((w.alloc (Obj.cells #[Value.slice a1 len1 cap1] 55)).alloc (Obj.cells #[Value.int IntKind.i64 0] 3)).alloc (Obj.cells #[Value.bool false] 4)).alloc (Obj.cells #[Value.int IntKind.i64 nx0] 3)).alloc (Obj.cells #[Value.slice a2 len2 cap2] 55):=⟨_,rfl⟩
 rw[←hw5]
 have hsize:w5.heap.size=w.heap.size+5:=by rw[hw5];simp
 have hB0:Below w.heap.size w w5:=by
  rw[hw5]
  exact(((((Below.refl _ w).alloc (Nat.le_refl _) _).alloc (by simp) _).alloc (by simp;omega) _).alloc (by simp;omega) _).alloc (by simp;omega) _
 have b0:Boxed w5 w.heap.size 55 (Value.slice a1 len1 cap1):=by
  rw[hw5];exact((((Boxed.new w _ _).alloc _).alloc _).alloc _).alloc _
 have b1:Boxed w5 (w.heap.size+1) 3 (.int .i64 0):=by
  rw[hw5]
  have:=Boxed.new (w.alloc (Obj.cells #[Value.slice a1 len1 cap1] 55)) 3 (.int .i64 0)
  rw[World.size_alloc]at this
  exact((this.alloc _).alloc _).alloc _
 have b2:Boxed w5 (w.heap.size+1+1) 4 (.bool false):=by
  rw[hw5]
  have:=Boxed.new ((w.alloc (Obj.cells #[Value.slice a1 len1 cap1] 55)).alloc (Obj.cells #[Value.int IntKind.i64 0] 3)) 4 (.bool false)
  rw[World.size_alloc,World.size_alloc]at this
  exact(this.alloc _).alloc _
 have b3:Boxed w5 (w.heap.size+1+1+1) 3 (.int .i64 nx0):=by
  rw[hw5]
  have:=Boxed.new (((w.alloc (Obj.cells #[Value.slice a1 len1 cap1] 55)).alloc (Obj.cells #[Value.int IntKind.i64 0] 3)).alloc (Obj.cells #[Value.bool false] 4)) 3 (.int .i64 nx0)
  rw[World.size_alloc,World.size_alloc,World.size_alloc]at this
  exact this.alloc _
 have b4:Boxed w5 (w.heap.size+1+1+1+1) 55 (Value.slice a2 len2 cap2):=by
  rw[hw5]
  have:=Boxed.new ((((w.alloc (Obj.cells #[Value.slice a1 len1 cap1] 55)).alloc (Obj.cells #[Value.int IntKind.i64 0] 3)).alloc (Obj.cells #[Value.bool false] 4)).alloc (Obj.cells #[Value.int IntKind.i64 nx0] 3)) 55 (Value.slice a2 len2 cap2)
  rw[World.size_alloc,World.size_alloc,World.size_alloc,World.size_alloc]at this
  exact this
 have hi5:Tog.Inv w (Value.slice a1 len1 cap1) nx0 0 false w5:=⟨hB0,b0.cell,b1.cell,b1.frozen,b2.cell,b2.frozen,b3.cell,b3.frozen⟩
 refine wpIn_rangeFunc_ownG hro h1 (gf:=166) (lb:= #[.pointer (some ⟨w.heap.size+1+1+1+1,0,none⟩)]) rfl h8 (enters_of Tryz.func166 (by kernel_rfl) rfl)
  (Tog.back_stops F (n-1) h8 hro (by omega) (w.heap.size+1+1+1+1) w.heap.size _ zs hreach w5 (by omega) (by omega) b4.cell (hI2.below hB0)) (fun h k=>Tog.Kp.trans h k) (Tog.Kp.put (by omega) (by omega)) (Below.refl _ _) (fun _=>rfl)
  (fun pre W=> ∃nx,Go.Abs.togSt f (pre.map Prod.snd) nx0=some nx∧0≤nx∧nx≤f.length∧Tog.Inv w (Value.slice a1 len1 cap1) nx 0 false W)
  (fun c pre W=>c= .ret∧Go.Abs.togSt f (pre.map Prod.snd) nx0=none∧ ∃nx,Tog.Inv w (Value.slice a1 len1 cap1) nx 0 false W)
  (fun s A B row hs hg hr=>by obtain⟨nx,h1,h2,h3,h4⟩:=hs;exact⟨nx,h1,h2,h3,h4.grow hg fun r e=>⟨by have:=(hr r e).1;omega,(hr r e).2⟩⟩)
  (fun c s A B row hs hg hr=>by obtain⟨h1,h2,nx,h4⟩:=hs;exact⟨h1,h2,nx,h4.grow hg fun r e=>⟨by have:=(hr r e).1;omega,(hr r e).2⟩⟩)
  ⟨nx0,rfl,hx0,hx1,hi5⟩
  (fun x => { tmps := #[Value.slice a1 len1 cap1, Value.slice a2 len2 cap2, Value.int IntKind.i64 nx0,
     Value.pointer (some {block:=w.heap.size,off:=0}),undef,undef,
     Value.pointer (some {block:=w.heap.size+1,off:=0}),
     Value.pointer (some {block:=w.heap.size+1+1,off:=0}),
     Value.pointer (some {block:=w.heap.size+1+1+1,off:=0}),undef,.int .i64 x.2,Value.int IntKind.i64 nx0,
     Value.slice a2 len2 cap2,
     Value.func (Fn.func 166) #[] #[Value.pointer (some {block:=w.heap.size+1+1+1+1,off:=0})],
     .int .i64 x.1,.int .i64 x.2,undef,undef,undef,undef,undef,undef,undef,undef,undef,undef,undef],defers:=[]}) ?assign ?body ?done ?stop
 case assign=>
  intro l x W K hK
  gi_wp2
  exact hK
 case body=>
  rintro l pre ⟨x1,x2⟩ W ⟨nx,hst,hn0,hn1,hi⟩ _
  have hi':=hi
  obtain⟨hb,c0,c1,f1,c2,f2,c3,f3⟩:=hi
  by_cases h2:x2= -1
  ·subst h2
   gi_wp2
   refine⟨KeepsFrom.refl _ _,Tog.Kp.refl _ _ _,nx,?_,hn0,hn1,hi'⟩
   rw[List.map_append,List.map_cons,List.map_nil,Tog.st_snoc,hst]
   rfl
  ·by_cases h3:x2=nx-1
   ·obtain⟨m,rfl⟩: ∃m:Nat,x2=m:=⟨x2.toNat,by omega⟩
    obtain rfl:nx=(m:Int)+1:=by omega
    have hml:m<f.length:=by omega
    rcases hI1.below hb with⟨_,rfl⟩|⟨b,off,cap,e,hbb,hcs⟩
    ·simp at hml
    ·have hcm:=hcs m hml
     obtain⟨y,hyv⟩: ∃y,(f[m]?).getD 0=y:=⟨_,rfl⟩
     rw[hyv]at hcm
     have hs:Go.Abs.togStep f ((m:Int)+1) m=some y:=by
      unfold Go.Abs.togStep
      rw[if_neg h2,if_pos (by omega),Int.toNat_natCast,hyv]
     generalize hQ:ownPostG _ _ _ _ _ _=Q
     have hn: ∀a,Q .normal a (W.setCell ⟨w.heap.size+1+1+1,0,none⟩ (.int .i64 y)):=by
      intro a
      rw[←hQ]
      refine⟨(KeepsOthers.setCell _ _ _).from _,⟨(Below.refl _ _).setCell (by show _≤w.heap.size+1+1+1;omega) _,?_⟩,y,?_,(Tog.step_ok hf hn0 hn1 hs).1,(Tog.step_ok hf hn0 hn1 hs).2,hi'.next y⟩
      ·rw[Tog.far _ _ _ _ (by first|(simp;done)|(simp;omega))]
      ·rw[List.map_append,List.map_cons,List.map_nil,Tog.st_snoc,hst]
       exact hs
     clear hQ
     rw[e]at c0 ⊢
     exact Tog.body_in F l n b off cap f.length cap2 len2 a2 m y nx0 x1 w.heap.size w W Q hml (by omega) c0 c3 f3 hcm hn
   ·gi_wp2
    refine⟨⟨?_,?_⟩,rfl,?_,nx,hi'.res 0 false⟩
    ·simp
    ·intro k o hk ho hoc
     have k1:=((KeepsOthers.setCell W ⟨w.heap.size+1,0,none⟩ (.int .i64 0))).same k o ho hoc
     exact(KeepsOthers.setCell _ ⟨w.heap.size+1+1,0,none⟩ (.bool false)).same k o k1 hoc
    ·rw[List.map_append,List.map_cons,List.map_nil,Tog.st_snoc,hst]
     simp only[Option.bind_some,Go.Abs.togStep,if_neg h2,if_neg h3]
 case done=>
  rintro D ys W hD rfl ⟨nx,hst,hn0,hn1,hi⟩ hK
  have hi':=hi
  obtain⟨hb,c0,c1,f1,c2,f2,c3,f3⟩:=hi
  rw[Tog.upto_rev]at hst
  rw[hst]at hrv
  dsimp only at hrv
  subst hrv
  clear b0 b1 b2 b3 b4 hi5
  gi_wp2
  have hi2:=hi'.res nx true
  have hK':=(KeepsOthers.setCell (W.setCell ⟨w.heap.size+1,0,none⟩ (.int .i64 nx)) ⟨w.heap.size+1+1,0,none⟩ (.bool true)).same D _ ((KeepsOthers.setCell W ⟨w.heap.size+1,0,none⟩ (.int .i64 nx)).same D _ hK rfl) rfl
  refine⟨by simp,.inl ⟨_,_,rfl,run_takeDeferred hK',?_⟩⟩
  have hi3:=hi2.grow (grownBy_putObj' _ D (.deferred none)) (fun r e=>by cases e;exact⟨by omega,_,hK',rfl⟩)
  refine⟨.tuple #[.int .i64 nx,.bool true],?_,rfl,hi3.b⟩
  have k1:=hi3.c1
  have k2:=hi3.c2
  simp[results,Tryz.f117,go_sem,k1,k2]
 case stop=>
  rintro D c pre W hD ⟨k,hk,rfl⟩ ⟨rfl,hst,nx,hi⟩ hK
  obtain⟨r,hr⟩:=Tog.upto_pre zs hk
  have hst2:Go.Abs.togSt f zs.reverse nx0=none:=by rw[hr];exact Tog.st_none _ _ _ _ hst
  rw[hst2]at hrv
  dsimp only at hrv
  subst hrv
  have hi':=hi
  obtain⟨hb,c0,c1,f1,c2,f2,c3,f3⟩:=hi
  clear b0 b1 b2 b3 b4 hi5
  gi_wp2
  refine⟨by simp,.inl ⟨_,_,rfl,run_takeDeferred hK,?_⟩⟩
  have hi3:=hi'.grow (grownBy_putObj' _ D (.deferred none)) (fun r e=>by cases e;exact⟨by omega,_,hK,rfl⟩)
  refine⟨.tuple #[.int .i64 0,.bool false],?_,rfl,hi3.b⟩
  have k1:=hi3.c1
  have k2:=hi3.c2
  simp[results,Tryz.f117,go_sem,k1,k2]
end Go.Proofs
set_option linter.unusedVariables false
set_option linter.unusedSimpArgs false
set_option maxRecDepth 100000
namespace Go.Abs
open Go Go.Proofs Go.RowKit
section
variable {W0 w:World}{μ:Mu}
theorem Ig {G:Gh}{b:Nat}: ∀(l:List CV) (off:Nat) (zs:List Int),EL G w b 1 off l→intsOf l=some zs→zs.length=l.length∧ ∀j,j<zs.length→w.cell? ⟨b,off+j,none⟩=some (.int .i64 (zs[j]?.getD 0))
 |[],off,zs,_,h=>by
  injection h with h
  subst h
  exact⟨rfl,fun j hj=>by simp at hj⟩
 |x::r,off,zs,h,hz=>by
  unfold intsOf at hz
  split at hz
  ·rename_i e
   cases e
  ·rename_i n r' e
   injection e with e1 e2
   subst e1 e2
   obtain⟨l,hl,h2⟩:=aZ hz
   injection h2 with h2
   subst h2
   simp only[EL]at h
   obtain⟨⟨v,hv,_,hx⟩,hr⟩:=h
   simp only[VR]at hx
   subst hx
   obtain⟨i1,i2⟩:=Ig r (off+1) l hr hl
   refine⟨by simp[i1],fun j hj=> ?_⟩
   cases j with
   |zero=>simpa using hv
   |succ j=>
    have:=i2 j (by simpa using hj)
    rw[show off+(j+1)=off+1+j by omega]
    simpa using this
  ·cases hz
theorem uf: ∀(l:List CV) (zs:List Int),intsOf l=some zs→ ∀x∈l,x.cells.length=1
 |[],zs,_,x,hx=>by simp at hx
 |y::r,zs,hz,x,hx=>by
  unfold intsOf at hz
  split at hz
  ·rename_i e
   cases e
  ·rename_i n r' e
   injection e with e1 e2
   subst e1 e2
   obtain⟨l,hl,h2⟩:=aZ hz
   rcases List.mem_cons.1 hx with rfl|hx
   ·rfl
   ·exact uf r l hl x hx
  ·cases hz
theorem JN {G:Gh}{b off cap s:Nat}{xs:List CV}{zs:List Int}(hz:intsOf xs=some zs)(h0:xs≠[])(hs: ∀x∈xs,x.cells.length=s)(he:EL G w b s off xs):Tog.Ints w.heap.size w (.slice (some ⟨b,off,none⟩) xs.length cap) zs:=by
 have h1:s=1:=by
  match xs,h0 with
  |y::r,_=>rw[←hs y (by simp)];exact uf _ _ hz y (by simp)
 subst h1
 obtain⟨i1,i2⟩:=Ig xs off zs he hz
 refine Or.inr ⟨b,off,cap,by rw[i1],?_,i2⟩
 have hp:0<xs.length:=List.length_pos_iff.2 h0
 have:=Ac (i2 0 (by omega))
 exact this
theorem JO {G:Gh}{L:Nat}{x:LV}{v:Value}{xs:List CV}{zs:List Int}(h:LVR G w L 0 x v)(hx:bp x=some xs)(hz:intsOf xs=some zs): ∃a len cap,v= .slice a len cap∧Tog.Ints w.heap.size w (.slice a len cap) zs:=by
 unfold bp at hx
 split at hx
 ·rename_i ys
  injection hx with hx
  subst ys
  simp only[LVR,VR]at h
  obtain⟨A,len,cap,rfl,rfl,h1,h2⟩:=h
  refine⟨A,_,cap,rfl,?_⟩
  by_cases h0:xs=[]
  ·subst h0
   injection hz with hz
   exact .inl ⟨⟨A,cap,rfl⟩,hz.symm⟩
  ·rcases h2 with h2|⟨b,off,s,rfl,h3,h4⟩
   ·exact absurd (List.length_eq_zero_iff.1 h2) h0
   ·exact JN hz h0 h3 h4
 ·injection hx with hx
  subst hx
  simp only[LVR,VR]at h
  subst h
  injection hz with hz
  exact⟨none,0,0,rfl,.inl ⟨⟨none,0,rfl⟩,hz.symm⟩⟩
 ·rename_i ys
  injection hx with hx
  subst ys
  simp only[LVR,km]at h
  rcases h with⟨rfl,rfl⟩|⟨b,cap,cur,e,s,rfl,h6,_,_,_,h3,h5,h4,_⟩
  ·injection hz with hz
   exact⟨none,0,0,rfl,.inl ⟨⟨none,0,rfl⟩,hz.symm⟩⟩
  ·refine⟨_,_,cap,rfl,?_⟩
   by_cases h0:xs=[]
   ·subst h0
    injection hz with hz
    exact .inr ⟨b,0,cap,by rw[←hz];rfl,Am h6,fun j hj=>by rw[←hz]at hj;simp at hj⟩
   ·exact JN hz h0 h3 h4
 ·cases hx
theorem KR {cargs:Array Value}{v1 v2 v3:Value}(hs:cargs.size=3)(h1:cargs.getD 0 undef=v1)(h2:cargs.getD 1 undef=v2)(h3:cargs.getD 2 undef=v3):cargs= #[v1,v2,v3]:=by
 apply Array.ext
 ·simpa using hs
 ·intro j k1 k2
  rw[Array.getD_eq_getD_getElem?,Array.getElem?_eq_getElem (by omega)]at h1 h2 h3
  have:j=0∨j=1∨j=2:=by omega
  rcases this with rfl|rfl|rfl
  ·simpa using h1
  ·simpa using h2
  ·simpa using h3
theorem HS {args:List LV}{out:Out}(h:mE args μ=some out):cR E.P W0 117 args μ out:=by
 unfold mE at h
 obtain⟨q,hq,h⟩:=aZ h
 obtain⟨r,hr,h⟩:=aZ h
 obtain⟨z,hz,h⟩:=aZ h
 obtain⟨u,hu,h⟩:=aZ h
 obtain⟨f,hf,h⟩:=aZ h
 obtain⟨l,hl,h⟩:=aZ h
 obtain⟨nx,hnx,h⟩:=aZ h
 obtain⟨fi,hfi,h⟩:=aZ h
 obtain⟨li,hli,h⟩:=aZ h
 obtain⟨hg,h⟩:=ex h
 injection h with h
 subst h
 have hargs:args=[q.1,r.1,z.1]:=by rw[cr hq,cr hr,cr hz,eq hu]
 subst hargs
 unfold zF at hg
 simp only[Bool.and_eq_true,decide_eq_true_eq,List.all_eq_true]at hg
 obtain⟨⟨⟨⟨g1,g2⟩,g3⟩,g4⟩,g5⟩:=hg
 refine jk (dC Tryz.func117 rfl (by kernel_rfl)) fun G w cargs hs hv h1 h2=> ?_
 obtain⟨a1,len1,cap1,e1,I1⟩:=JO (hv 0 _ rfl) hf hfi
 obtain⟨a2,len2,cap2,e2,I2⟩:=JO (hv 1 _ rfl) hl hli
 have e3:=hv 2 _ rfl
 rw[rq hnx]at e3
 simp only[LV.int,CV.int,LVR,VR]at e3
 rw[KR (by simpa using hs) e1 e2 e3]
 refine((Tog.together_in Fence.wide 3 trivial trivial trivial rfl (Nat.le_refl _) a1 a2 len1 cap1 len2 cap2 fi li (by omega) (by omega) (fun v hv=>by simpa using g5 v hv) nx g3 g4 w I1 I2).calls fun k d hd=>by cases hd).mono fun e w' ⟨k1,k2⟩=> ?_
 refine⟨_,k1,k2,?_,fun b hb=> ?_⟩
 ·unfold FI
  cases Go.Abs.togSt fi li.reverse nx with
  |some v=>exact⟨_,rfl,_,_,rfl,rfl,rfl,_,_,rfl,rfl,rfl,rfl⟩
  |none=>exact⟨_,rfl,_,_,rfl,rfl,rfl,_,_,rfl,rfl,rfl,rfl⟩
 ·unfold FI at hb
  split at hb<;>simp[aH]at hb
theorem xz {args:List LV}{out:Out}(h:io mK args μ=some out):cR E.P W0 131 args μ out:=by
 unfold io at h
 obtain⟨q,hq,h⟩:=aZ h
 obtain⟨r,hr,h⟩:=aZ h
 obtain⟨u,hu,h⟩:=aZ h
 obtain⟨s,hs,h⟩:=aZ h
 have hargs:args=[LV.str s,r.1]:=by rw[cr hq,cr hr,eq hu,fY hs]
 rw[hargs]
 split at h
 ·rename_i g hg
  rw[hg]
  obtain⟨p,hp,h⟩:=aZ h
  injection h with h
  subst h
  unfold mK at hp
  split at hp
  ·injection hp with hp;subst hp
   exact Ay Zv Tryz.call186 (fun b hb=>rfl) (fun x hx=>by simp;omega) (fun b hb=>by simp;omega)
  ·injection hp with hp;subst hp
   exact Ay p44 Tryz.call132 (fun b hb=>rfl) (fun x hx=>by simp;omega) (fun b hb=>by simp;omega)
  ·injection hp with hp;subst hp
   refine Ay p92 Tryz.call137 (fun b hb=>Rl ⟨b.toNat,hb⟩) (fun x hx=> ?_) (fun b hb=> ?_)
   ·unfold Ce
    have:decide (126<x)=true:=by simp;omega
    rw[this];rfl
   ·simp;omega
  ·cases hp
 ·cases h
theorem P5 (B:Base W0):vn E W0:=by
 intro f g hf args μ out h
 have hp:Mt f=some g:=hf
 unfold Mt at hp
 split at hp<;>first|(cases hp;done)|skip
 all_goals(injection hp with hp;subst hp)
 all_goals first
  |exact HS h
  |exact Mm B h
  |exact Uv B h
  |exact Uw B h
  |exact Fb B h
  |exact BU B h
  |exact HT B h
  |exact Fc B h
  |exact RY B h
  |exact BT B h
  |exact xz h
  |exact Fa h
  |exact PS h
end
end Go.Abs
set_option linter.unusedVariables false
set_option linter.unusedSimpArgs false
namespace Go.Abs.Ga
open Go Go.Proofs
section
variable {P:Program}{t:TypeId}{c:CV}
theorem Rn {ys:List CV}(h:IsL [.int .i64,.int .i64,.str,.sl false [.int .i64]] ys): ∃x:Nd,CV.agg ys=x.cv:=by
 unfold IsL at h
 obtain⟨_,_,rfl,h1,h⟩:=h
 unfold IsL at h
 obtain⟨_,_,rfl,h2,h⟩:=h
 unfold IsL at h
 obtain⟨_,_,rfl,h3,h⟩:=h
 simp only[Is]at h1 h2 h3
 obtain⟨a,rfl,_⟩:=h1
 obtain⟨b,rfl,_⟩:=h2
 obtain⟨s,rfl,_⟩:=h3
 unfold IsL Is at h
 obtain⟨y,r,rfl,⟨xs,rfl,_,hx⟩,hr⟩:=h
 unfold IsL at hr
 subst hr
 simp only[Bool.false_eq_true,if_false]at hx
 have: ∀(xs:List CV),(∀x∈xs,IsL [.int .i64] [x])→ ∃l:List Int,xs=l.map (CV.int .i64):=by
  intro xs
  induction xs with
  |nil=>intro _;exact⟨[],rfl⟩
  |cons a b ih=>
   intro h
   obtain⟨l,rfl⟩:=ih fun x hx=>h x (List.mem_cons_of_mem _ hx)
   have h1:=h a (by simp)
   simp only[IsL,Is]at h1
   obtain⟨y,r,e,⟨n,rfl,_⟩,_⟩:=h1
   injection e with e _
   subst e
   exact⟨n::l,rfl⟩
 obtain⟨l,rfl⟩:=this xs hx
 exact⟨⟨a,b,s,l⟩,rfl⟩
theorem is_nds (ht:lA P t=false)(h:if lA P t=true then ∃ys,c= .agg ys∧IsL [.sl true [.int .i64,.int .i64,.str,.sl false [.int .i64]]] ys else IsL [.sl true [.int .i64,.int .i64,.str,.sl false [.int .i64]]] [c]): ∃l:List Nd,LV.cv c=LV.cv (CV.sl (aS l))∧l.length≤maxLen:=by
 simp only[ht,Bool.false_eq_true,if_false]at h
 unfold IsL Is at h
 obtain⟨y,r,e,⟨xs,rfl,hl,hx⟩,_⟩:=h
 injection e with e _
 subst e
 simp only[if_true]at hx
 have: ∀(xs:List CV),(∀x∈xs,∃ys,x=CV.agg ys∧IsL [.int .i64,.int .i64,.str,.sl false [.int .i64]] ys)→ ∃l:List Nd,xs=aS l:=by
  intro xs
  induction xs with
  |nil=>intro _;exact⟨[],rfl⟩
  |cons a b ih=>
   intro h
   obtain⟨l,rfl⟩:=ih fun x hx=>h x (List.mem_cons_of_mem _ hx)
   obtain⟨ys,rfl,h1⟩:=h a (by simp)
   obtain⟨x,h2⟩:=Rn h1
   exact⟨x::l,by rw[h2];rfl⟩
 obtain⟨l,rfl⟩:=this xs hx
 exact⟨l,rfl,by simpa[aS]using hl⟩
end
end Go.Abs.Ga
set_option maxRecDepth 100000
namespace Go.Proofs.YtmemoghbijcebaaGreatDoor.ExprChecks
open Go Go.Proofs
theorem AF:Tryz.prog.closure 8=[8,12,13,51,85,127,151,167,131,154,171,186,152,168,169,187,82,126,160,188,190,189,207,133,155,172,196,216,217,156,173,197,174,175,199,218,230,243,244,254,253,255,245,246,256,257,262,263,198,176,191,205,206,224,231,247,258,259,213,228,239,251,240,241,242,252,157,153,170,177,200,129,178,201,89,135,138,136,130,158,179,180,202,219,181,159,182,203,220,221,192,193,92,208,209,210,225,232,233,234,248,235,249,260,264,265,226,236,237,238,250,261,211,227,229,212,194,214,195,215,93,18,55,90,132,134,91,137,56,94,95,139,161,183,162,164,184,204,222,223,185,76,123,163,69,118,119,165,57,96,73,58,97,140,98,22,53,64,33,67,72,117,150,166,78,68,115,114,87,128,88,16,26,65,21,17,54,34,35,70,30,120,121,71,44,81,124,125,122,142,106,62,104,25,63,105,107,108,109,110,143,144,145,146,147,148,111,149,112,113,79,32,116,36]:=by kernel_rfl
theorem inPlace:Tryz.prog.inPlace 8=Rows.exprChecksRow.inPlace:=by
 unfold Program.inPlace
 rw[AF]
 kernel_rfl
theorem unfollowed:Tryz.prog.unfollowed 8=Rows.exprChecksRow.unfollowed:=by
 unfold Program.unfollowed
 rw[AF]
 kernel_rfl
theorem recurses:Tryz.prog.recurses 8=Rows.exprChecksRow.recurses:=by
 unfold Program.recurses
 rw[unfollowed]
 rfl
theorem varsNamed:Tryz.prog.varsNamed 8=Rows.exprChecksRow.named:=by
 unfold Program.varsNamed
 rw[AF]
 kernel_rfl
theorem SZ:joinedFacts Tryz.pinned.checked.prog 8 Tryz.f8 (OpenSpec.ofChange Rows.exprChecksSpec).bare Rows.exprChecksRow=true:=by
 unfold joinedFacts
 rw[show Tryz.pinned.checked.prog.inPlace 8=_ from inPlace,show Tryz.pinned.checked.prog.unfollowed 8=_ from unfollowed,show Tryz.pinned.checked.prog.recurses 8=_ from recurses,show Tryz.pinned.checked.prog.varsNamed 8=_ from varsNamed]
 kernel_rfl
end Go.Proofs.YtmemoghbijcebaaGreatDoor.ExprChecks
set_option linter.unusedVariables false
set_option linter.unusedSimpArgs false
set_option maxRecDepth 100000
namespace Go.Proofs.YtmemoghbijcebaaGreatDoor.ExprChecks
open Go Go.Proofs Go.Abs Go.ChangeShapes Go.WideShapes Go.ChangeAt Go.RowKit Glue
theorem xf (H:Type)(enc:TypeId×Value→H)(W:World)(base:Nat)(args:Array Value)(ds gs:List (DataW H))(before:List MemPlace)
  (hval: ∀(j:Nat) t v,Tryz.f8.params[j]? =some t→args[j]? =some v→Value.okWide Tryz.prog W .any base t v)
  (hW:DataW.Whole enc Tryz.prog Tryz.f8.params.toList Rows.exprChecksSpec.vars false W args.toList ds gs before) (hL:laidMetH Tryz.prog Rows.exprChecksRow.laid W) (hS:W.ShapedOpen Tryz.prog):
  Calls Tryz.prog 8 args W fun e W'=> ∃v,e= .returned v∧Rows.exprChecksSpec.post enc Tryz.prog Tryz.f8 false true false false W args v W':=by
 have hL':laidMet Tryz.prog vy W:=hL
 have B:=C6 hL' hS
 have hW':=hW
 obtain⟨p,q,hA0,hV0,rfl,_,_⟩:=hW
 have hA:DataW.TrodAll enc Tryz.prog W 0 (fun _=>true) true Tryz.f8.params.toList args.toList ds p:=hA0
 rw[Tryz.params8]at hA hval
 obtain⟨v0,vs0,d0,ds0,p0,q0,e0,rfl,rfl,h0,r0⟩:=trodAll_cons hA
 obtain⟨rfl,rfl,rfl⟩:=trodAll_nil r0
 obtain rfl:args= #[v0]:=by cases args;simp_all
 obtain⟨rfl,rfl⟩:=trodVars_none hV0
 obtain⟨c0,V0,I0⟩:=Ga.open_arg (n:=8) (l:=[.sl true [.int .i64,.int .i64,.str,.sl false [.int .i64]]]) (by kernel_rfl) (hval 0 24 v0 rfl rfl) h0
 obtain⟨x0,X0⟩:=Ga.is_nds (t:=24) (by kernel_rfl) I0
 clear hA0 hV0
 simp only[List.append_nil]at hW'
 have hm:cR Tryz.prog W 8 ([c0].map LV.cv) [] (.ret (LV.bool true) []):=by
  refine DO V9 (P5 B) ?_
  show (ev E).call 8 [LV.cv c0] []=_
  rw[(X0).1]
  exact YX
 refine(cR.bool (cargs:= #[v0]) hm rfl (fun j x hx=> ?_)).mono fun e W' ⟨he,hk⟩=> ?_
 ·match j,hx with
  |0,hx=>injection hx with hx;subst hx;exact V0
 ·subst he
  exact⟨_,rfl,Ga.post_true (tb:=4) TQ (by kernel_rfl) Tryz.underlying4 (by kernel_rfl) rfl hW' rfl rfl rfl hk⟩
theorem Ie (os:Os){H:Type}(enc:TypeId×Value→H):
  (OpenSpec.ofChange Rows.exprChecksSpec).preRow enc Tryz.prog Tryz.f8 Rows.exprChecksRow.domain false Rows.exprChecksRow.laid ((iS os).forCall (fun _ _=>0) ⟨#[],#[.slice none 0 0],[]⟩).memory #[.slice none 0 0]:=by
 have hw:(DataW.whole enc Tryz.prog ((iS os).forCall (fun _ _=>0) ⟨#[],#[.slice none 0 0],[]⟩).memory Tryz.f8.params.toList Rows.exprChecksSpec.vars false (#[.slice none 0 0]:Array Value).toList 8).map (fun x=>(x.1,x.2.1))=
   some ([.nil],[]):=by kernel_rfl
 obtain⟨⟨x1,x2,x3⟩,hx,hx1⟩:=Option.map_eq_some_iff.1 hw
 simp only[Prod.mk.injEq]at hx1
 obtain⟨rfl,rfl⟩:=hx1
 exact OpenSpec.preRow_of_cond 8 hx (by kernel_rfl) (fun k hk=>by cases hk) (by kernel_rfl) (Q7 os _)
theorem VO (os:Os)(started:os.Started)(H:Type)(enc:TypeId×Value→H)(F:Stop.Interp):
  ReturnsInHanded {} Tryz.checked os 8 .any ((OpenSpec.ofChange Rows.exprChecksSpec).preRow enc Tryz.prog Tryz.f8 Rows.exprChecksRow.domain false Rows.exprChecksRow.laid) (((OpenSpec.ofChange Rows.exprChecksSpec).at F).post enc Tryz.prog Tryz.f8 false true false false):=by
 refine returnsInHanded_of_row (C:=Tryz.checked) (s:=OpenSpec.ofChange Rows.exprChecksSpec) own started (by kernel_rfl) Tryz.func8
  (witness_row_atRef (enc:=enc) (C:=Tryz.checked) false (iS os) #[.slice none 0 0] rfl (by kernel_rfl) (by kernel_rfl) (by kernel_rfl) (Ie os enc)) ?_
 intro W base args ds gs before hval hW _ _ _ hL hS _
 exact xf H enc W base args ds gs before hval hW hL hS
theorem said:Rows.ExprChecksSaid:=
 OpenClaim.holds_of_cond 8 Tryz.f8 rfl rfl rfl rfl rfl rfl rfl ⟨rfl,rfl,rfl,rfl,rfl⟩ rfl rfl rfl rfl rfl (by kernel_rfl) Tryz.func8 SZ
  (of_decide_eq_true (by kernel_rfl)) (by unfold Func.isWrapper;first|(rw[if_pos (by decide+kernel)];kernel_rfl)|(rw[if_neg (by decide+kernel)];exact⟨rfl,rfl⟩))
  (fun os started H enc _ F=>by rw[OpenClaim.pre_eq_preRow];exact VO os started H enc F)
theorem plain (f:FuncId)(fn:Func)(hf:Tryz.pinned.checked.prog.funcNamed "formulary/formularylaw04.ExprChecks" =some f)(hfn:Tryz.pinned.checked.prog.funcs[f]? =some fn):
  true=Tryz.pinned.checked.prog.looks []∧ ∀(j:Nat) t,fn.params[j]? =some t→Tryz.pinned.checked.prog.wantsStandIn t=false:=by
 obtain rfl:f=8:=Option.some.inj ((show Tryz.prog.funcNamed "formulary/formularylaw04.ExprChecks" =some 8 by kernel_rfl).symm.trans hf) |>.symm
 obtain rfl:fn=Tryz.f8:=(Option.some.inj (Tryz.func8.symm.trans hfn)).symm
 refine⟨by kernel_rfl,fun j t ht=> ?_⟩
 rw[Tryz.params8]at ht
 have hm:=Array.mem_of_getElem? ht
 simp only[List.mem_toArray,List.mem_cons,List.not_mem_nil,or_false]at hm
 subst hm
 ·exact(show Tryz.prog.wantsStandIn 24=false by kernel_rfl)
end Go.Proofs.YtmemoghbijcebaaGreatDoor.ExprChecks
namespace Go.Proofs.YtmemoghbijcebaaGreatDoor
theorem exprChecks_holds:Rows.ExprChecksCardSaid:=
 Claim7.holds_tied_plain_at .later [] _ _ _ _ ExprChecks.said (fun _ h=>by cases h) (by kernel_rfl) (fun _ h=>by cases h) exprChecks_row_tie rfl ⟨rfl,rfl⟩ (by kernel_rfl) rfl ExprChecks.plain (by kernel_rfl)
#print axioms exprChecks_holds
end Go.Proofs.YtmemoghbijcebaaGreatDoor
