/-
  The statement TokensBlanksCardSaid, proved; part 8 of 8 of its proof.
  TokensBlanks: the law.
  The library's functions that are taken by contract: the builder's copy check and its text.
  TokensBlanks answers true for every argument, and its arguments read as they did.
-/
import Derived.Test.YtfcjjankfjaapaaGreatDoorK6
import Derived.Test.YtfcjjankfjaapaaGreatDoorK3
import Derived.Shelf.Strings.BuilderK
import Derived.Test.YtfcjjankfjaapaaGreatDoorK5
import Derived.Test.YtfcjjankfjaapaaGreatDoorCards
import Derived.Test.YtfcjjankfjaapaaGreatDoorTie
import Derived.WalkKit
import Derived.OpenShut
set_option linter.all false
set_option linter.unusedSectionVars false
set_option linter.unusedVariables false
set_option linter.unusedSimpArgs false
set_option maxRecDepth 100000
namespace Go.Abs
open Go Go.Proofs
section
variable {μ:Mu}{l:List Tok}{pl:List Int}
def dj (l:List Int):List CV:=l.map (CV.int .i64)
theorem P9 {x:Int}(hp:pl.length≤100000): ∀(k i:Nat) (b:Bool),i+k=pl.length→ ∃b',yJ (ev E) x b (dj pl) (pl.length:Int) (i:Int) μ=some (mA b' μ):=by
 intro k
 induction k with
 |zero=>
  intro i b hi
  exact⟨b,aW (by rw[Ev,c6 (by omega),cond_false])⟩
 |succ k ih=>
  intro i b hi
  have hlt:i<pl.length:=by omega
  have hg:bZ (dj pl) (i:Int)=some (CV.int .i64 pl[i]):=by rw[ey];unfold dj;rw[List.getElem?_map,List.getElem?_eq_getElem hlt];rfl
  have hi2:aI .i64 (LV.cv (CV.int .i64 pl[i]))=some pl[i]:=ao
  obtain⟨b1,h1⟩:=ih (i+1) true (by omega)
  obtain⟨b2,h2⟩:=ih (i+1) (decide (pl[i]=x)) (by omega)
  have hs:(Af x b (dj pl) (pl.length:Int) (i:Int)).rK (ev E) μ=cond b (some (mA b1 μ)) (some (mA b2 μ)):=by
   rw[Ev,cI hlt,cond_true,hg,aa,hi2,aa,bV (by omega),h1,h2]
  cases b with
  |true=>exact⟨b1,aW hs⟩
  |false=>exact⟨b2,aW hs⟩
theorem Q4 {x:Int}(hp:pl.length≤100000): ∃b,(ev E).call 22 [LV.cv (CV.sl (dj pl)),LV.int .i64 x] μ=some (.ret (LV.bool b) μ):=by
 have hl:(dj pl).length=pl.length:=by simp[dj]
 obtain⟨b,h⟩:=P9 (μ:=μ) (x:=x) hp pl.length 0 false (by omega)
 rw[show ((0:Nat):Int)=0 from rfl]at h
 exact⟨b,aO (by rw[Su,hl,h,aa,GO])⟩
theorem P4 (hp:pl.length≤100000){i:Nat}(hi:i<l.length)(ht:(l[i]).text.length≤130)(hv: ∀b∈(l[i]).text,noQ b∧b≠32∧b≠104): ∀(k j:Nat) (D S:List UInt8),j+k=(l[i]).text.length→D.length+k≤100000→S.length+2*k≤100000→
  ∃ins,Fl (ev E) (aA l) (dj pl) D S (i:Int) (j:Int) μ=some (ur (aA l) (dj pl) (D++(l[i]).text.drop j) (S++ins) (i:Int) μ)∧ins.length≤2*k∧
   (∀u w,BB u w→BB (ins++u) ((l[i]).text.drop j++w))∧(1≤k→ ∀u c r,ins++u=c::r→c≠39)∧(1≤k→ins≠[]):=by
 intro k
 induction k with
 |zero=>
  intro j D S hj hD hS
  refine⟨[],aW ?_,by simp,fun u w h=> ?_,fun h=>by omega,fun h=>by omega⟩
  ·rw[xc,g9 hi,aa,bB,c6 (by omega),cond_false,List.drop_eq_nil_of_le (by omega),List.append_nil,List.append_nil]
  ·rw[List.drop_eq_nil_of_le (by omega)];exact h
 |succ k ih=>
  intro j D S hj hD hS
  have hlt:j<(l[i]).text.length:=by omega
  have hd:(l[i]).text.drop j=(l[i]).text[j]::(l[i]).text.drop (j+1):=List.drop_eq_getElem_cons hlt
  obtain⟨v1,v2,v3⟩:=hv _ (List.getElem_mem hlt)
  have h21: ∀S':List UInt8,S'.length≤200000→E6 (ev E) (aA l) (dj pl) D S' (i:Int) (j:Int) μ=some (tV (aA l) (dj pl) (D++[(l[i]).text[j]]) (S'++[(l[i]).text[j]]) (i:Int) (j:Int) μ):=by
   intro S' hS'
   refine aZ ?_
   rw[OO,g9 hi,aa,bB,bV (by omega),zW hlt,aa,bq (by simp;omega),az,aa,bB,zW hlt,aa,bq (by simp;omega),az]
  obtain⟨b,hb⟩:=Q4 (μ:=μ) (pl:=pl) (x:=(D.length:Int)) hp
  cases b with
  |true=>
   obtain⟨ins,i1,i2,i3,i4,i5⟩:=ih (j+1) (D++[(l[i]).text[j]]) (S++[32]++[(l[i]).text[j]]) (by omega) (by simp;omega) (by simp;omega)
   refine⟨32::(l[i]).text[j]::ins,aW ?_,by simp;omega,fun u w h=> ?_,fun _ u c r h=> ?_,fun _=>by simp⟩
   ·rw[xc,g9 hi,aa,bB,cI hlt,cond_true,hb,ad,ae,aa,cond_true,bq (by simp;omega),az,h21 _ (by simp;omega),aa,vO,bV (by omega),i1,hd]
    simp
   ·rw[hd]
    exact .sp (.ch v1 v2 v3 (i3 u w h))
   ·injection h with h _
    rw[←h];decide
  |false=>
   obtain⟨ins,i1,i2,i3,i4,i5⟩:=ih (j+1) (D++[(l[i]).text[j]]) (S++[(l[i]).text[j]]) (by omega) (by simp;omega) (by simp;omega)
   refine⟨(l[i]).text[j]::ins,aW ?_,by simp;omega,fun u w h=> ?_,fun _ u c r h=> ?_,fun _=>by simp⟩
   ·rw[xc,g9 hi,aa,bB,cI hlt,cond_true,hb,ad,ae,aa,cond_false,h21 S (by omega),aa,vO,bV (by omega),i1,hd]
    simp
   ·rw[hd]
    exact .ch v1 v2 v3 (i3 u w h)
   ·injection h with h _
    rw[←h];exact v1.1
def JJ (l:List Tok)(i:Nat)(S D:List UInt8):Prop:= ∀u w,BB u w→((match l[i-1]? with|some t=>0<i∧mL t|none=>False)→(∀c r,u=c::r→c≠39)∧(∀c r,w=c::r→c≠39))→BB (S++u) (D++w)
theorem P3 (hp:pl.length≤100000)(hl:l.length≤100)(ht: ∀t∈l,t.text.length≤130)(hv: ∀t∈l,VT t): ∀(k i:Nat) (D S:List UInt8),i+k=l.length→D.length≤i*130→S.length≤i*260→JJ l i S D→(∀b∈D,fN b)→(∀b∈S,fN b)→
  jv (ev E) (aA l) (dj pl) D S (i:Int) μ=some (j4 true μ)∨ ∃D' S',jv (ev E) (aA l) (dj pl) D S (i:Int) μ=some (uq D' S' μ)∧BB S' D'∧D'.length≤100000∧S'.length≤100000∧ ∀b∈D',fN b:=by
 intro k
 induction k with
 |zero=>
  intro i D S hi hD hS hJ hDt hSt
  refine Or.inr ⟨D,S,aW ?_,?_,by omega,by omega,hDt⟩
  ·rw[xb,fy,c6 (by omega),cond_false]
  ·have:=hJ [] [] .nil (fun _=>⟨fun c r h=>(by cases h),fun c r h=>(by cases h)⟩)
   rw[List.append_nil,List.append_nil]at this
   exact this
 |succ k ih=>
  intro i D S hi hD hS hJ hDt hSt
  have hlt:i<l.length:=by omega
  have hmem:=List.getElem_mem hlt
  have hvt:=hv _ hmem
  have ht1:=ht _ hmem
  have hne:=(jZ hvt).1
  have h15:opt (jt (ev E) (aA l) (dj pl) D S (i:Int) μ) (kR (ev E) H5 [.seq (cA 5 [1,1,1,1,1,0,1,0,0,1,0,0,1]),.block 1,.seq (cA 5 [1,1,1,1,1,0,1,0,0,1,1])] [(7,0),(8,0)] (cA 5 [1,1,1,1,1,0,1,0,0]))=jv (ev E) (aA l) (dj pl) (D++(l[i]).text) (S++(l[i]).text) ((i+1:Nat):Int) μ:=by
   have:jt (ev E) (aA l) (dj pl) D S (i:Int) μ=some (tT (aA l) (dj pl) (D++(l[i]).text) (S++(l[i]).text) (i:Int) μ):=by
    refine aZ ?_
    rw[OM,g9 hlt,aa,bB,bq (by omega),az,aa,bB,bq (by omega),az]
   rw[this,aa,Gs,bV (by omega)]
  by_cases hc:mL l[i]
  ·
   obtain⟨tx,htx⟩:=RZ hvt hc
   have hstep:(vu (aA l) (dj pl) D S (i:Int)).rK (ev E) μ=if 0<i∧(∃t,l[i-1]? =some t∧mL t)then some (j4 true μ)else jv (ev E) (aA l) (dj pl) (D++(l[i]).text) (S++(l[i]).text) ((i+1:Nat):Int) μ:=by
    rw[xb,fy,cI hlt,cond_true,g9 hlt,aa,bB,decide_eq_true hc.1,cond_true,aa,bB,decide_eq_true hc.2,cond_true,h15]
    by_cases h0:i=0
    ·subst h0
     rw[if_neg (by omega)]
     rfl
    ·have hlt1:i-1<l.length:=by omega
     rw[decide_eq_true (by omega:(0:Int)<(i:Int)),cond_true,zb (by omega) (by omega),g9 hlt1,aa,bB,aa,bB]
     have hiff:(0<i∧(∃t,l[i-1]? =some t∧mL t))↔mL l[i-1]:=by
      rw[List.getElem?_eq_getElem hlt1]
      constructor
      ·rintro⟨_,t,h1,h2⟩
       injection h1 with h1
       rw[h1];exact h2
      ·intro h;exact⟨by omega,_,rfl,h⟩
     by_cases hch:mL l[i-1]
     ·rw[if_pos (hiff.2 hch),decide_eq_true hch.1,decide_eq_true hch.2];rfl
     ·rw[if_neg (fun e=>hch (hiff.1 e))]
      by_cases a1:(l[i-1]).kind=1
      ·have a2: ¬(l[i-1]).type=6:=fun e=>hch ⟨a1,e⟩
       rw[decide_eq_true a1,decide_eq_false a2];rfl
      ·rw[decide_eq_false a1];rfl
   by_cases hprev:0<i∧(∃t,l[i-1]? =some t∧mL t)
   ·exact Or.inl (aW (by rw[hstep,if_pos hprev]))
   ·rw[if_neg hprev]at hstep
    have hlp:jv (ev E) (aA l) (dj pl) D S (i:Int) μ=jv (ev E) (aA l) (dj pl) (D++(l[i]).text) (S++(l[i]).text) ((i+1:Nat):Int) μ∨True:=Or.inr trivial
    have hnext := ih (i + 1) (D ++ (l[i]).text) (S ++ (l[i]).text) (by omega) (by simp; omega) (by simp; omega) (by
     intro u w hB hcond
     rw[List.append_assoc,List.append_assoc]
     have hg:l[i+1-1]? =some l[i]:=by rw[Nat.add_sub_cancel];exact List.getElem?_eq_getElem hlt
     rw[hg]at hcond
     obtain⟨c1,c2⟩:=hcond ⟨by omega,hc⟩
     refine hJ _ _ (by rw[htx];exact .qt c1 c2 hB) ?_
     intro h
     exfalso
     apply hprev
     cases hq:l[i-1]? with
     |none=>rw[hq]at h;exact h.elim
     |some t=>rw[hq]at h;exact⟨h.1,t,rfl,h.2⟩)
     (fun b hb=>(List.mem_append.1 hb).elim (hDt b) (oV hvt b)) (fun b hb=>(List.mem_append.1 hb).elim (hSt b) (oV hvt b))
    rcases hnext with h|⟨D',S',h,h2⟩
    ·exact Or.inl (aW (by rw[hstep];exact h))
    ·exact Or.inr ⟨D',S',aW (by rw[hstep];exact h),h2⟩
  ·
   obtain⟨ins,i1,i2,i3,i4,i5⟩:=P4 (μ:=μ) hp hlt ht1 (BJ hvt hc) (l[i]).text.length 0 D S (by omega) (by omega) (by omega)
   rw[List.drop_zero,show ((0:Nat):Int)=0 from rfl]at i1
   rw[List.drop_zero]at i3
   have hpos:1≤(l[i]).text.length:=by
    cases hq:(l[i]).text with
    |nil=>exact absurd hq hne
    |cons c r=>simp
   have h16:opt (yI (ev E) (aA l) (dj pl) D S (i:Int) μ) (kR (ev E) H5 [.block 1,.seq (cA 5 [1,1,1,1,1,0,1,0,0,1,1])] [(7,0),(8,0)] (cA 5 [1,1,1,1,1,0,1,0,0]))=jv (ev E) (aA l) (dj pl) (D++(l[i]).text) (S++ins) ((i+1:Nat):Int) μ:=by
    have:yI (ev E) (aA l) (dj pl) D S (i:Int) μ=some (tU (aA l) (dj pl) (D++(l[i]).text) (S++ins) (i:Int) μ):=by
     refine aZ ?_
     rw[ON,i1,aa,GZ]
    rw[this,aa,Gt,bV (by omega)]
   have hstep:(vu (aA l) (dj pl) D S (i:Int)).rK (ev E) μ=jv (ev E) (aA l) (dj pl) (D++(l[i]).text) (S++ins) ((i+1:Nat):Int) μ:=by
    rw[xb,fy,cI hlt,cond_true,g9 hlt,aa,bB,aa,bB,aa,bB,h16,decide_eq_false hne,cond_false]
    by_cases a1:(l[i]).kind=1
    ·have a2: ¬(l[i]).type=6:=fun e=>hc ⟨a1,e⟩
     rw[decide_eq_true a1,decide_eq_false a2];rfl
    ·rw[decide_eq_false a1];rfl
   have hnext := ih (i + 1) (D ++ (l[i]).text) (S ++ ins) (by omega) (by simp; omega) (by simp; omega) (by
    intro u w hB hcond
    rw[List.append_assoc,List.append_assoc]
    refine hJ _ _ (i3 u w hB) fun _=>⟨fun c r h=>i4 hpos u c r h,fun c r h=> ?_⟩
    have:c∈(l[i]).text:=by
     cases hq:(l[i]).text with
     |nil=>exact absurd hq hne
     |cons a b=>
      rw[hq]at h
      injection h with h _
      rw[←h];simp
    exact(BJ hvt hc c this).1.1)
    (fun b hb=>(List.mem_append.1 hb).elim (hDt b) (oV hvt b)) (fun b hb=>(List.mem_append.1 hb).elim (hSt b) fun hb=> ?_)
   ·rcases hnext with h|⟨D',S',h,h2⟩
    ·exact Or.inl (aW (by rw[hstep];exact h))
    ·exact Or.inr ⟨D',S',aW (by rw[hstep];exact h),h2⟩
   ·have hBi:=i3 [] [] .nil
    rw[List.append_nil,List.append_nil]at hBi
    exact HI hBi (oV hvt) b hb
theorem Qa {d x:List UInt8}(hl:d.length≤200000): ∀(k i:Nat),i+k=d.length→1≤i→(∀j,j+1<i→d[j+1]? =some 72→ah ((d[j]?).getD 0)=false)→
  m6 (ev E) d x (i:Int) μ=some (mC true μ)∨(m6 (ev E) d x (i:Int) μ=some (po d x μ)∧noH d):=by
 intro k
 induction k with
 |zero=>
  intro i hi h1 hj
  refine Or.inr ⟨aW (by rw[xd,c6 (by omega),cond_false]),fun j h=>hj j ?_ h⟩
  refine Classical.byContradiction fun e=> ?_
  rw[List.getElem?_eq_none (by omega)]at h
  cases h
 |succ k ih=>
  intro i hi h1 hj
  have hlt:i<d.length:=by omega
  have hlt1:i-1<d.length:=by omega
  have e72:decide ((d[i].toNat:Int)=72)=decide (d[i]=72):=co (k:=72) (by omega)
  have hstep:(Ah d x (i:Int)).rK (ev E) μ=cond (decide (d[i]=72)&&ah d[i-1]) (some (mC true μ)) (m6 (ev E) d x ((i+1:Nat):Int) μ):=by
   have hc:=UInt8.toNat_lt d[i-1]
   rw[xd,cI hlt,cond_true,b9 hlt,aa,e72,zb (by omega) h1,b9 hlt1,aa,cp (by omega) (by omega),sA]
   simp only[ad,aq,aa,am,ao,aj,ae,ak,az,cond_true,cond_false,Bool.not_true,Bool.not_false,av,au,ar]
   rw[bV (by omega)]
   have hdg:(decide ((48:Int)≤(d[i-1].toNat:Int))&&decide ((d[i-1].toNat:Int)≤57))=ah d[i-1]:=by
    unfold ah
    congr 1
    ·by_cases h:48≤d[i-1].toNat
     ·rw[decide_eq_true h,decide_eq_true (by omega)]
     ·rw[decide_eq_false h,decide_eq_false (by omega)]
    ·by_cases h:d[i-1].toNat≤57
     ·rw[decide_eq_true h,decide_eq_true (by omega)]
     ·rw[decide_eq_false h,decide_eq_false (by omega)]
   rw[hdg]
   cases decide (d[i]=72)<;>cases ah d[i-1]<;>rfl
  cases hq:decide (d[i]=72)&&ah d[i-1]with
  |true=>exact Or.inl (aW (by rw[hstep,hq,cond_true]))
  |false=>
   have hnext := ih (i + 1) (by omega) (by omega) (by
    intro j hji hg
    rcases Nat.lt_or_ge (j+1) i with h|h
    ·exact hj j h hg
    ·have e:j+1=i:=by omega
     have e2:j=i-1:=by omega
     rw[e,List.getElem?_eq_getElem hlt]at hg
     injection hg with hg
     rw[e2,List.getElem?_eq_getElem hlt1,Option.getD_some]
     rw[decide_eq_true hg,Bool.true_and]at hq
     exact hq)
   rcases hnext with h|⟨h,h2⟩
   ·exact Or.inl (aW (by rw[hstep,hq,cond_false,h]))
   ·exact Or.inr ⟨aW (by rw[hstep,hq,cond_false,h]),h2⟩
theorem Pi {u w:List UInt8}(h:BB u w):w.length≤u.length:=by
 induction h with
 |nil=>exact Nat.le_refl _
 |sp h ih=>simp;omega
 |ch h1 h2 h3 h4 ih=>simp;omega
 |qt h1 h2 h3 ih=>simp;omega
theorem Sk (hl0:l.length≤maxLen)(hp0:pl.length≤maxLen):(ev E).call 5 [LV.cv (CV.sl (aA l)),LV.cv (CV.sl (pl.map (CV.int .i64)))] []=some (.ret (LV.bool true) []):=by
 have hpl:(pl.map (CV.int .i64))=dj pl:=rfl
 have hpll:(dj pl).length=pl.length:=by simp[dj]
 rw[hpl]
 refine aO ?_
 rw[nf5,QX]
 simp only[ad,aq,aa,am,ao,aj,ae,ak,az,cond_true,cond_false,Bool.not_true,Bool.not_false,av,au,ar]
 have hG:Pj (ev E) (aA l) (dj pl) []=some (je true []):=by
  refine aZ ?_
  rw[Qr,fy,hpll]
  by_cases h0:l.length=0
  ·rw[decide_eq_true (by omega:(l.length:Int)=0)];rfl
  ·rw[decide_eq_false (by omega: ¬(l.length:Int)=0),cond_false]
   by_cases h30:30<l.length
   ·rw[decide_eq_true (by omega:(30:Int)<(l.length:Int))];rfl
   ·rw[decide_eq_false (by omega: ¬(30:Int)<(l.length:Int)),cond_false]
    by_cases hp30:30<pl.length
    ·rw[decide_eq_true (by omega:(30:Int)<(pl.length:Int))];rfl
    ·rw[decide_eq_false (by omega: ¬(30:Int)<(pl.length:Int)),cond_false,Q2 (by omega)]
     simp only[ad,aq,aa,am,ao,aj,ae,ak,az,cond_true,cond_false,Bool.not_true,Bool.not_false,av,au,ar]
     cases hf:FK l with
     |false=>rfl
     |true=>
      have ht: ∀t∈l,t.text.length≤130:=by
       unfold FK at hf
       rw[Bool.and_eq_true,List.all_eq_true]at hf
       intro t h
       simpa using hf.2 t h
      have e0:bZ (aA l) (0:Int)=some (getElem l 0 (by omega)).cv:=by have:=g9 (l:=l) (i:=0) (by omega);rw[show ((0:Nat):Int)=0 from rfl]at this;exact this
      rw[Bool.not_true,cond_false,e0,aa,bB]
      by_cases hk:(getElem l 0 (by omega)).kind=0
      ·rw[decide_eq_true hk,Bool.not_true,cond_false]
       have hG5:Pk (ev E) (aA l) (dj pl) []=some (sm true []):=by
        refine aZ ?_
        rw[Qs,Q3 (by omega) (fun t h=>by have:=ht t h;omega)]
        simp only[ad,aq,aa,am,ao,aj,ae,ak,az,cond_true,cond_false,Bool.not_true,Bool.not_false,av,au,ar]
        by_cases he:(sB l).2=0
        ·obtain⟨_,hv⟩:=LP.1 he
         rw[decide_eq_true he,Bool.not_true,cond_false]
         have hG8:Pm (ev E) (aA l) (dj pl) []=some (md true []):=by
          refine aZ ?_
          rw[Qt]
          have h10:=P3 (μ:=[]) (l:=l) (pl:=pl) (by omega) (by omega) ht hv l.length 0 [] [] (by omega) (by simp) (by simp) (fun u w h _=>h) (fun b hb=>(by cases hb)) (fun b hb=>(by cases hb))
          rw[show ((0:Nat):Int)=0 from rfl]at h10
          rcases h10 with h|⟨D,S,h,hB,hD,hS,hDt⟩
          ·rw[h,aa];exact GX _ _ _
          ·have hSt:=HI hB hDt
           have hle:=Pi hB
           rw[h,aa,GY]
           have h23:m6 (ev E) D S (1:Int) []=some (mC true [])∨(m6 (ev E) D S (1:Int) []=some (po D S [])∧noH D):=by
            by_cases hD0:D.length=0
            ·refine Or.inr ⟨aW (by rw[xd,hD0];rfl),fun i hi=> ?_⟩
             rw[List.getElem?_eq_none (by omega)]at hi
             cases hi
            ·have:=Qa (μ:=[]) (d:=D) (x:=S) (by omega) (D.length-1) 1 (by omega) (Nat.le_refl 1) (fun j h=>by omega)
             rw[show ((1:Nat):Int)=1 from rfl]at this
             exact this
           rcases h23 with h|⟨h,hn⟩
           ·rw[h,aa];exact G5 _ _ _
           ·rw[h,aa,G6]
            by_cases h1320:1320<S.length
            ·rw[decide_eq_true (by omega:(1320:Int)<(S.length:Int))];rfl
            ·rw[decide_eq_false (by omega: ¬(1320:Int)<(S.length:Int)),cond_false]
             have hz: ∀{x:List UInt8},(∀b∈x,fN b)→ ∀b∈x,b≠0:=by
              intro x hx b hb e
              have:=(hx b hb).1
              rw[e]at this
              exact absurd this (by decide)
             obtain⟨s1,s2,s3⟩:=KB (xq hSt (by omega)) (xq hDt (by omega)) (hz hSt) (hz hDt) hn hB
             have hG29:Nc (ev E) D S []=some (mz true []):=by
              refine aZ ?_
              have hl2:=Kz (s:=D)
              rw[OP,Nr (by omega)]
              simp only[ad,aq,aa,am,ao,aj,ae,ak,az,cond_true,cond_false,Bool.not_true,Bool.not_false,av,au,ar]
              rw[Nr (by omega),s1,s2]
              simp only[ad,aq,aa,am,ao,aj,ae,ak,az,cond_true,cond_false,Bool.not_true,Bool.not_false,av,au,ar,decide_true]
              rw[Q1 (by omega)]
              simp only[ad,aq,aa,am,ao,aj,ae,ak,az,cond_true,cond_false,Bool.not_true,Bool.not_false,av,au,ar,decide_true]
              have hG33:Nd (ev E) ((bc true D).n:Int) (bc true D).e ((bc true S).n:Int) []=some (ph true []):=by
               refine aZ ?_
               rw[OQ]
               by_cases hd:(bc true D).e=0
               ·rw[decide_eq_true hd,s3 (by rw[s1];exact hd),decide_eq_true rfl];rfl
               ·rw[decide_eq_false hd];rfl
              rw[hG33,aa,Gv]
             rw[hG29,aa,Gu]
         rw[hG8,aa,J7]
        ·rw[decide_eq_false he];rfl
       rw[hG5,aa,J6]
      ·rw[decide_eq_false hk];rfl
 rw[hG,aa,J5]
end
end Go.Abs
set_option linter.unusedVariables false
set_option linter.unusedSimpArgs false
set_option maxRecDepth 100000
set_option maxHeartbeats 1000000
namespace Go.Abs
open Go Go.Proofs Go.RowKit
theorem sizeBuilder:(Tryz.prog.info? 103).map (·.size)=some 2:=by kernel_rfl
theorem liesBuilder:liesAt Tryz.prog Tryz.prog.depth 103 (2 / Tryz.prog.cellsOf 103) 0 103 1=true:=by kernel_rfl
theorem Ix (b:Nat)(w:World)(h0:w.cell? ⟨b,0,none⟩=some (.pointer (some ⟨b,0,none⟩))):
  Calls Tryz.prog 116 #[.pointer (some ⟨b,0,none⟩)] w fun e w'=>e= .returned (.tuple #[])∧w'=w:=by
 obtain⟨j,hj,_⟩:=Option.map_eq_some_iff.1 sizeBuilder
 go_enter Tryz.func116,Tryz.ntmps116
 go_wp2
 rw[Lib.run_neq_ptr_same w _ Tryz.underlying100 hj]
 go_wp2
 go_end0
 exact⟨rfl,rfl⟩
theorem FD (b:Nat)(w:World)(h0:w.cell? ⟨b,0,none⟩=some (.pointer none))(hsh:w.shape? b=some (103,2))(hfz:w.frozen? ⟨b,0,none⟩=false):
  Calls Tryz.prog 116 #[.pointer (some ⟨b,0,none⟩)] w fun e w'=>e= .returned (.tuple #[])∧w'=w.setCell ⟨b,0,none⟩ (.pointer (some ⟨b,0,none⟩)):=by
 obtain⟨j,hj,hjs⟩:=Option.map_eq_some_iff.1 sizeBuilder
 go_enter Tryz.func116,Tryz.ntmps116
 go_wp2
 rw[Lib.run_to_unsafe w ⟨b,0,none⟩ Tryz.underlying100 Tryz.underlying159 hj (by rw[hjs];decide) hsh (Nat.zero_lt_succ 1)]
 simp only[Result.andThen]
 rw[Oper.upon_value]
 go_wp2
 rw[run_callFunc_extern Tryz.func146 (by kernel_rfl) (by kernel_rfl) (by kernel_rfl) (e:=Extern.AbiNoEscape.same) (by kernel_rfl)]
 rw[Lib.run_noEscape]
 simp only[Result.andThen]
 rw[Oper.upon_value]
 go_wp2
 rw[Lib.run_from_unsafe w ⟨b,0,none⟩ Tryz.underlying159 Tryz.underlying100 hj hsh liesBuilder]
 simp only[Result.andThen]
 rw[Oper.upon_value]
 go_wp2
 go_end0
 exact⟨rfl,rfl⟩
theorem KQ {b:Nat}{w:World}{p:Option Addr}{v:Value}(h0:w.cell? ⟨b,0,none⟩=some v)(hfz:w.frozen? ⟨b,0,none⟩=false):(storeVar 100 ⟨b,0,none⟩ (.pointer p)).run Tryz.prog w= .ok () (w.setCell ⟨b,0,none⟩ (.pointer p)):=by
 simp[storeVar,Tryz.sizeOf100,storeCells,Value.cells,run_store_pointer,stored,h0,hfz,Addr.add]
section
variable {W0 w:World}{G:Gh}{L:Nat}{μ:Mu}
theorem Rel.ret {args:List LV}{cargs:Array Value}{v:LV}{cv:Value}(R:Rel G L (aM args) μ cargs w)(hv:LVR G w L 0 v cv)(hno: ∀b,¬aD v cv b):
  Rel G L (aM [v]) μ #[cv] w∧(∀b,ax G w (aM [v]) μ #[cv] b→ax G w (aM args) μ cargs b):=by
 have hob: ∀lev i,aC (μ++[(aM [v]).lam]) lev i=aC (μ++[(aM args).lam]) lev i:=fun _ _=>rfl
 have hown: ∀q b,aw G w (aM [v]).fr #[cv] (μ++[(aM [v]).lam]) q b→aw G w (aM args).fr cargs (μ++[(aM args).lam]) q b:=by
  intro q b h
  cases q with
  |fr t=>
   exfalso
   simp only[aw,cu]at h
   cases t with
   |zero=>exact hno b h
   |succ t=>simp[aD]at h
  |ob lev i k=>exact h
 refine⟨⟨R.lev,fun t=> ?_,R.lam,R.mu,R.inj,fun q q' b h h'=>R.own q q' b (hown q b h) (hown q' b h'),fun q b lev i h h'=>R.apart q b lev i (hown q b h) h',R.nlt,R.nL,R.ngt⟩,fun b h=> ?_⟩
 ·rw[cu]
  cases t with
  |zero=>exact hv
  |succ t=>simp[LVR,VR]
 ·rcases h with⟨q,h⟩|h
  ·exact .inl ⟨q,hown q b h⟩
  ·exact .inr h
structure Bld (G:Gh) (L:Nat) (μ:Mu) (w:World) (lev i:Nat) (a b:LV) (cur:Array Value) (fz:Nat×Nat):Prop where
 lt:lev<L
 live:bb μ lev i= .cells [a,b]
 heap:w.heap[G.β lev i]? =some (.cells cur 103 fz)
 size:cur.size=2
 unf:dX cur fz
 O:G.O (G.β lev i)=0
 va:LVR (G.below lev) w lev 0 a (cur.getD 0 undef)
 vb:LVR (G.below lev) w lev 0 b (cur.getD 1 undef)
theorem Io {args:List LV}{cargs:Array Value}{lev i:Nat}{a b:LV}(R:Rel G L (aM args) μ cargs w)(ha:args[0]? =some (.cv (.tref lev i 103 2)))(hob:bb μ lev i= .cells [a,b]):
  ∃cur fz,Bld G L μ w lev i a b cur fz∧i<G.n lev∧cargs.getD 0 undef= .pointer (some ⟨G.β lev i,0,none⟩):=by
 have h0:=R.fr 0
 rw[cu,ha]at h0
 simp only[Option.getD_some,LVR,VR]at h0
 obtain⟨h1,h2,cur,fz,h3,h4⟩:=h0
 have hlt:lev<L:=by
  rcases Nat.lt_trichotomy lev L with h|h|h
  ·exact h
  ·subst h
   have:=R.nL
   simp[aM]at this
   omega
  ·have:=R.ngt lev h
   omega
 have hm:=R.mu lev i hlt
 rw[hob]at hm
 simp only[ObR]at hm
 obtain⟨cur2,e2,fz2,k1,k2,k3,k4,k5⟩:=hm
 rw[h3]at k1
 obtain⟨rfl,rfl,rfl⟩:=(Obj.cells.injEq ..).mp (Option.some.inj k1)
 exact⟨cur,fz,⟨hlt,hob,h3,h4,k2,k3,k5 0 a rfl,k5 1 b rfl⟩,h1,h2⟩
theorem zJ {cargs:Array Value}{v:Value}(hs:cargs.size=1)(hv:cargs.getD 0 undef=v):cargs= #[v]:=by
 apply Array.ext
 ·simpa using hs
 ·intro j h1 h2
  have:j=0:=by omega
  subst this
  rw[Array.getD_eq_getD_getElem?,Array.getElem?_eq_getElem h1]at hv
  simpa using hv
theorem Kb {lev i:Nat}{o:Ob}{args:List LV}(hlt:lev<μ.length)(h:bb μ lev i=o):aC (μ++[(aM args).lam]) lev i=o:=by
 rw[←h]
 exact bC hlt
theorem QW {b:Nat}{cur:Array Value}{e:TypeId}{fz:Nat×Nat}{k:Nat}(h:w.heap[b]? =some (.cells cur e fz))(hk:k<cur.size):w.cell? ⟨b,k,none⟩=some (cur.getD k undef):=by
 unfold World.cell?
 simp only[h]
 simp[Array.getD_eq_getD_getElem?,hk]
theorem Of {b:Nat}{cur:Array Value}{e:TypeId}{fz:Nat×Nat}{k:Nat}(h:w.heap[b]? =some (.cells cur e fz))(hk:k<cur.size)(hu:dX cur fz):w.frozen? ⟨b,k,none⟩=false:=by
 have:=hu k hk
 unfold World.frozen?
 simp only[h]
 simp
 omega
theorem A5 {args:List LV}{out:Out}(h:p3 103 args μ=some out):cD E.P W0 116 args μ out:=by
 unfold p3 at h
 obtain⟨q,hq,h2⟩:=bz h
 clear h
 obtain⟨u,hu,h⟩:=bz h2
 clear h2
 have hargs:args=[q.1]:=by rw[dP hq,f7 hu]
 rw[hargs]
 clear hargs hq hu
 obtain⟨x,y⟩:=q
 simp only at h ⊢
 split at h<;>try(cases h;done)
 rename_i lev i t n
 obtain⟨hg,h2⟩:=dC h
 clear h
 rw[Bool.and_eq_true]at hg
 have ht:=Nat.eq_of_beq_eq_true hg.1
 have hn:=Nat.eq_of_beq_eq_true hg.2
 subst ht hn
 refine⟨cW Tryz.func116 rfl (by kernel_rfl),fun G w cargs hs R hkn=> ?_⟩
 split at h2<;>try(cases h2;done)
 rename_i a b hob
 obtain⟨cur,fz,B,hin,hc0⟩:=Io R rfl hob
 have hca:=zJ (by simpa using hs) hc0
 have hlt:lev<μ.length:=B.lt
 have hcell:=QW (w:=w) B.heap (k:=0) (by rw[B.size];omega)
 split at h2<;>try(cases h2;done)
 ·
  injection h2 with h
  subst h
  have hva:=B.va
  simp only[LVR,VR]at hva
  rw[hva]at hcell
  have hfr:=Of (w:=w) B.heap (k:=0) (by rw[B.size];omega) B.unf
  have hsh:w.shape? (G.β lev i)=some (103,2):=by
   unfold World.shape?
   simp only[B.heap,B.size]
  have hset:ci μ lev i (.cells [.cv (.ref lev i 0),b])++[(aM [LV.cv (CV.tref lev i 103 2)]).lam]=ci (μ++[(aM [LV.cv (CV.tref lev i 103 2)]).lam]) lev i (.cells [.cv (.ref lev i 0),b]):=(ln hlt).symm
  obtain⟨w',hrun,R2,E2⟩:=R.writeOb (P:=Tryz.prog) (t:=100) (s1:=aM [LV.cv (CV.tref lev i 103 2)]) (μ1:=ci μ lev i (.cells [.cv (.ref lev i 0),b])) (lev:=lev) (i:=i) (off:=0) (v:= .cv (.ref lev i 0)) (cv:= .pointer (some ⟨G.β lev i,0,none⟩)) (o':= .cells [.cv (.ref lev i 0),b])
   (Ext.refl G w fun b h=>h) (Kb hlt hob) (by kernel_rfl)
   ⟨fun e=>absurd e (Nat.ne_of_lt hlt),fun _=>by simp only[LVR,VR,Gh.below];exact⟨by simpa using hin,trivial⟩⟩
   (fun b hb=>by simp[aD]at hb) rfl rfl rfl gW.1 hset
  have hw:w'=w.setCell ⟨G.β lev i,0,none⟩ (.pointer (some ⟨G.β lev i,0,none⟩)):=by
   have h1:=KQ (p:=some ⟨G.β lev i,0,none⟩) hcell hfr
   rw[hrun]at h1
   injection h1
  rw[hca]
  refine(FD (G.β lev i) w hcell hsh hfr).mono fun e w2 ⟨h1,h2⟩=> ?_
  subst h1
  rw[←hw]at h2
  subst h2
  obtain⟨R3,hT⟩:=R2.ret (v:= .ltup []) (cv:= .tuple #[]) ⟨#[],rfl,rfl⟩ (fun b h=>by simp[aD]at h)
  exact⟨G.O,R3,hca▸E2.weaken (fun _ h=>h) fun b hb=>hT b hb⟩
 ·
  rename_i l j
  obtain⟨hg2,h3⟩:=dC h2
  rw[Bool.and_eq_true]at hg2
  have hl:=Nat.eq_of_beq_eq_true hg2.1
  have hj:=Nat.eq_of_beq_eq_true hg2.2
  subst hl hj
  injection h3 with h
  subst h
  have hva:=B.va
  simp only[LVR,VR]at hva
  rw[hva.2]at hcell
  rw[hca]
  refine(Ix (G.β l j) w hcell).mono fun e w2 ⟨h1,h2⟩=> ?_
  subst h1 h2
  obtain⟨R3,hT⟩:=R.ret (v:= .ltup []) (cv:= .tuple #[]) ⟨#[],rfl,rfl⟩ (fun b h=>by simp[aD]at h)
  exact⟨G.O,R3,Ext.refl G _ (hca▸hT)⟩
end
theorem Dh {b g cap:Nat}{l:List UInt8}{p:Value}{fzb:Nat×Nat}{cur:Array Value}{w:World}(hbk:w.heap[b]? =some (.cells #[p,.slice (some ⟨g,0,none⟩) l.length cap] 103 fzb))(h0:l≠[])(hg:w.heap[g]? =some (.cells cur 5 (0,0)))
  (hnc:l.length≤cap) (hcm:cap≤maxLen) (hsz:l.length≤cur.size) (hcells: ∀(j:Nat) x,l[j]? =some x→w.cell? ⟨g,j,none⟩=some (.int .u8 x.toNat)):
  Calls Tryz.prog 77 #[.pointer (some ⟨b,0,none⟩)] w fun e w'=>e= .returned (.string ⟨l.toArray⟩)∧w'=w.drew.freeze ⟨g,0,none⟩ l.length:=by
 have hl0:l.length≠0:=by simpa using h0
 have c1:w.drew.cell? ⟨b,1,none⟩=some (.slice (some ⟨g,0,none⟩) l.length cap):=by
  have:w.drew.heap[b]? =some (.cells #[p,.slice (some ⟨g,0,none⟩) l.length cap] 103 fzb):=hbk
  rw[Lib.cell_of_heap this];rfl
 have hSD:(Builtin.unsafeSliceData_ #[101] 137 #[.slice (some ⟨g,0,none⟩) l.length cap]).run Tryz.prog w.drew= .ok (.pointer (some ⟨g,0,none⟩)) w.drew:=
  Lib.run_unsafeSliceData_row _ _ _ _ _ _ (by omega)
 have hUS:(Builtin.unsafeString_ #[137,3] 9 #[.pointer (some ⟨g,0,none⟩),.int .i64 l.length]).run Tryz.prog w.drew= .ok (.string ⟨l.toArray⟩) (w.drew.freeze ⟨g,0,none⟩ l.length):=by
  refine Lib.run_unsafeString_row w.drew 137 3 9 5 Tryz.underlying137 Tryz.Builder_Extra_169.cellsByte g cur.size (by have hg':w.drew.heap[g]? =some (.cells cur 5 (0,0)):=hg;simp[World.shape?,hg']) l h0 (by omega) (by unfold maxLen at hcm;omega) ?_
  intro j x hx
  have:=hcells j x hx
  by_cases hj:j=0
  ·subst hj;simpa[Addr.add]using this
  ·simpa[Addr.add,hj]using this
 go_enter Tryz.func77,Tryz.ntmps77
 go_wp2
 go_region
 all_goals(go_wp2;go_ret;exact⟨rfl,rfl⟩)
theorem HB {b:Nat}{p:Value}{fzb:Nat×Nat}{w:World}(hbk:w.heap[b]? =some (.cells #[p,.slice none 0 0] 103 fzb)):
  Calls Tryz.prog 77 #[.pointer (some ⟨b,0,none⟩)] w fun e w'=>e= .returned (.string ⟨#[]⟩)∧w'=w.drew:=by
 have hUS: ∀W q,(Builtin.unsafeString_ #[137,3] 9 #[.pointer q,.int .i64 0]).run Tryz.prog W= .ok (.string .empty) W:=fun W q=>Lib.run_unsafeString_none W _ _ _ q
 have c1:w.drew.cell? ⟨b,1,none⟩=some (.slice none 0 0):=by
  have:w.drew.heap[b]? =some (.cells #[p,.slice none 0 0] 103 fzb):=hbk
  rw[Lib.cell_of_heap this];rfl
 have hSD:(Builtin.unsafeSliceData_ #[101] 137 #[.slice none 0 0]).run Tryz.prog w.drew= .ok (.pointer none) w.drew:=rfl
 go_enter Tryz.func77,Tryz.ntmps77
 go_wp2
 go_region
 all_goals(go_wp2;go_ret;exact⟨rfl,rfl⟩)
theorem Di {b g:Nat}{p:Value}{fzb:Nat×Nat}{cur:Array Value}{e:TypeId}{w:World}(hbk:w.heap[b]? =some (.cells #[p,.slice (some ⟨g,0,none⟩) 0 0] 103 fzb))(hg:w.heap[g]? =some (.cells cur e (0,0))):
  Calls Tryz.prog 77 #[.pointer (some ⟨b,0,none⟩)] w fun e w'=>e= .returned (.string ⟨#[]⟩)∧w'=w.drew.alloc (.view ⟨g,0,none⟩ 5):=by
 have hUS: ∀W q,(Builtin.unsafeString_ #[137,3] 9 #[.pointer q,.int .i64 0]).run Tryz.prog W= .ok (.string .empty) W:=fun W q=>Lib.run_unsafeString_none W _ _ _ q
 have hlt:b<w.heap.size:=by
  rcases Nat.lt_or_ge b w.heap.size with h'|h'
  ·exact h'
  ·simp[Array.getElem?_eq_none h']at hbk
 have c1:w.drew.cell? ⟨b,1,none⟩=some (.slice (some ⟨g,0,none⟩) 0 0):=by
  have:w.drew.heap[b]? =some (.cells #[p,.slice (some ⟨g,0,none⟩) 0 0] 103 fzb):=hbk
  rw[Lib.cell_of_heap this];rfl
 have hSD:(Builtin.unsafeSliceData_ #[101] 137 #[.slice (some ⟨g,0,none⟩) 0 0]).run Tryz.prog w.drew= .ok (.pointer (some ⟨w.drew.heap.size,0,none⟩)) (w.drew.alloc (.view ⟨g,0,none⟩ 5)):=
  Lib.run_unsafeSliceData_zero w.drew _ _ 5 Tryz.underlying137 ⟨g,0,none⟩ 0 (e,cur.size) (by have hg':w.drew.heap[g]? =some (.cells cur e (0,0)):=hg;simp[World.shape?,hg'])
 have c2:(w.drew.alloc (.view ⟨g,0,none⟩ 5)).cell? ⟨b,1,none⟩=some (.slice (some ⟨g,0,none⟩) 0 0):=by
  have:(w.drew.alloc (.view ⟨g,0,none⟩ 5)).heap[b]? =_:=(Lib.alloc_old w.drew _ b hlt).trans hbk
  rw[Lib.cell_of_heap this];rfl
 have c3:(w.alloc (.view ⟨g,0,none⟩ 5)).drew.cell? ⟨b,1,none⟩=some (.slice (some ⟨g,0,none⟩) 0 0):=c2
 have c0:w.cell? ⟨b,1,none⟩=some (.slice (some ⟨g,0,none⟩) 0 0):=c1
 go_enter Tryz.func77,Tryz.ntmps77
 go_wp2
 go_region
 all_goals(go_wp2;go_ret;exact⟨rfl,rfl⟩)
section
variable {W0 w:World}{G:Gh}{L:Nat}{μ:Mu}
theorem rN {args:List LV}{cargs:Array Value}{μ':Mu}{G':Gh}{w':World}{T:Nat→Prop}{v:LV}{cv:Value}(R1:Rel G L (aM args) μ' cargs w)(hT1: ∀b,ax G w (aM args) μ' cargs b→T b)(hle:Le G w G' w')
  (hfr: ∀b,ax G w (aM args) μ' cargs b→w'.heap[b]? =w.heap[b]? ∧G'.O b=G.O b) (hG:G'=G.withO G'.O) (ho:w'.os=w.os) (ht:w'.tape=w.tape) (hu:w'.output=w.output) (hs:w.heap.size≤w'.heap.size)
  (hkeep: ∀b,b<w.heap.size→ ¬T b→w'.heap[b]? =w.heap[b]? ∧G'.O b=G.O b) (hv:LVR G' w' L 0 v cv) (hno: ∀b,¬aD v cv b):eX L T G w (.ret v μ') (.returned cv) w':=by
 have hβ: ∀lev i,G'.β lev i=G.β lev i∧G'.sz lev i=G.sz lev i:=by intro lev i;rw[hG];exact⟨rfl,rfl⟩
 have hn:G'.n=G.n:=by rw[hG];rfl
 obtain⟨R2,hO2⟩:=R1.frame hle hfr (fun lev i _=>hβ lev i) hn
 obtain⟨R3,hT3⟩:=R2.ret hv hno
 have htouch: ∀b,ax G' w' (aM [v]) μ' #[cv] b→T b:=by
  intro b hb
  rcases hT3 b hb with⟨q,h⟩|⟨lev,i,h,e⟩
  ·exact hT1 b (.inl ⟨q,hO2 q b h⟩)
  ·exact hT1 b (.inr ⟨lev,i,h,by rw[←(hβ lev i).1];exact e⟩)
 refine⟨G'.O,?_,?_⟩
 ·rw[←hG];exact R3
 ·rw[←hG]
  exact⟨hle,ho,ht,hu,hs,hkeep,fun b hb=> .inl (htouch b hb),fun l _=>⟨fun i=>hβ l i,by rw[hn]⟩⟩
theorem B9 {g n:Nat}{cur:Array Value}{e:TypeId}{fz:Nat×Nat}(hg:w.heap[g]? =some (.cells cur e fz)):
  (∀b,b≠g→(w.drew.freeze ⟨g,0,none⟩ n).heap[b]? =w.heap[b]?)∧(∃fz',(w.drew.freeze ⟨g,0,none⟩ n).heap[g]? =some (.cells cur e fz'))∧(w.drew.freeze ⟨g,0,none⟩ n).os=w.os∧(w.drew.freeze ⟨g,0,none⟩ n).tape=w.tape∧(w.drew.freeze ⟨g,0,none⟩ n).output=w.output∧(w.drew.freeze ⟨g,0,none⟩ n).heap.size=w.heap.size:=by
 have hg':w.drew.heap[g]? =some (.cells cur e fz):=hg
 unfold World.freeze
 split
 ·exact⟨fun b _=>rfl,⟨fz,hg'⟩,rfl,rfl,rfl,rfl⟩
 ·refine⟨fun b hb=> ?_,?_,rfl,rfl,rfl,by simp⟩
  ·simp only[Array.getElem?_modify]
   rw[if_neg (fun e=>hb e.symm)]
   rfl
  ·simp only[Array.getElem?_modify,if_true,hg',Option.map_some]
   exact⟨_,rfl⟩
def mD (l:List UInt8):List CV:=l.map fun(b:UInt8)=>CV.v (.int .u8 (b.toNat:Int))
theorem Ip {l:List UInt8}:(mD l).length=l.length:=by simp[mD]
theorem qe: ∀{xs:List CV} {s:List UInt8},bi xs=some s→xs=mD s
 |[],s,h=>by injection h with h;subst h;rfl
 |x::r,s,h=>by
  unfold bi at h
  split at h
  ·rename_i heq;cases heq
  ·rename_i n r' heq
   injection heq with e1 e2
   subst e1 e2
   split at h
   ·rename_i hd
    obtain⟨l,hl,h2⟩:=bz h
    injection h2 with h2
    subst h2
    have ih:=qe hl
    rw[ih]
    simp only[Bool.and_eq_true,decide_eq_true_eq]at hd
    have hn:((UInt8.ofNat n.toNat).toNat:Int)=n:=by
     rw[UInt8.toNat_ofNat_of_lt' (by show n.toNat<256;omega)]
     omega
    show _=CV.v (.int .u8 ((UInt8.ofNat n.toNat).toNat:Int))::mD l
    rw[hn]
   ·cases h
  ·cases h
theorem Kc {args:List LV}{out:Out}(h:xj 103 args μ=some out):cD E.P W0 77 args μ out:=by
 unfold xj at h
 obtain⟨q,hq,h2⟩:=bz h
 clear h
 obtain⟨u,hu,h⟩:=bz h2
 clear h2
 have hargs:args=[q.1]:=by rw[dP hq,f7 hu]
 rw[hargs]
 clear hargs hq hu
 obtain⟨x,y⟩:=q
 simp only at h ⊢
 split at h<;>try(cases h;done)
 rename_i lev i t n
 obtain⟨hg,h2⟩:=dC h
 clear h
 rw[Bool.and_eq_true]at hg
 have ht:=Nat.eq_of_beq_eq_true hg.1
 have hn:=Nat.eq_of_beq_eq_true hg.2
 subst ht hn
 refine⟨cW Tryz.func77 rfl (by kernel_rfl),fun G w cargs hs R hkn=> ?_⟩
 split at h2<;>try(cases h2;done)
 rename_i a b hob
 obtain⟨xs,hxs,h3⟩:=bz h2
 obtain⟨s,hbs,h4⟩:=bz h3
 injection h4 with h4
 subst h4
 obtain⟨cur,fz,B,hin,hc0⟩:=Io R rfl hob
 have hca:=zJ (by simpa using hs) hc0
 have hlt:lev<μ.length:=B.lt
 have hot:=Kb (args:=[LV.cv (CV.tref lev i 103 2)]) hlt hob
 have hl:aK (aC (μ++[(aM [LV.cv (CV.tref lev i 103 2)]).lam]) lev i):=by rw[hot];trivial
 obtain⟨R1,_,hT,hO1,hO2,hlv⟩:=R.setOb (s1:=aM [LV.cv (CV.tref lev i 103 2)]) (μ1:=ci μ lev i .dead) (o':= .dead) (cur':=cur) hl B.heap rfl rfl rfl rfl gW.1 (ln hlt).symm
  (fun G' w' _ _ _=>⟨fun _=>trivial,fun _=>trivial⟩) (fun cs' k b h=>by cases h)
 rw[setRow_self w _ cur 103 fz B.heap]at R1 hT hO1 hO2
 have hT1: ∀b,ax G w (aM [LV.cv (CV.tref lev i 103 2)]) (ci μ lev i .dead) cargs b→ax G w (aM [LV.cv (CV.tref lev i 103 2)]) μ cargs b:=by
  intro b hb
  rcases hT b hb with h|⟨cs',k,h,_⟩
  ·exact h
  ·cases h
 obtain⟨hown,howns⟩:=il hxs B.vb
 have hp1: ∃p,w.heap[G.β lev i]? =some (.cells #[p,cur.getD 1 undef] 103 fz):=by
  refine⟨cur.getD 0 undef,?_⟩
  rw[B.heap]
  congr 2
  apply Array.ext
  ·exact B.size
  ·intro j h1 h2
   have hsz:=B.size
   have:j=0∨j=1:=by omega
   rcases this with rfl|rfl
   ·simp[Array.getD_eq_getD_getElem?,hsz]
   ·simp[Array.getD_eq_getD_getElem?,hsz]
 obtain⟨p,hbk⟩:=hp1
 rw[hca]
 rcases hown with⟨hx0,hv0⟩|⟨g,cap,cur2,e2,sz,hv,hg,h1,h2',h3',h4,h5,h6,h7,h8⟩
 ·
  subst hx0
  have hs0:s=[]:=by injection hbs with h;exact h.symm
  subst hs0
  rw[hv0]at hbk
  refine(HB hbk).mono fun e w2 ⟨k1,k2⟩=> ?_
  subst k1 k2
  rw[←hca]
  exact rN R1 hT1 ⟨fun _ _ _ h hb=>⟨h,hb⟩,fun _ _ h=>⟨h,rfl,rfl⟩,fun _ _ _ h hc=>⟨h,hc⟩,fun b cur e fz h=>⟨cur,fz,h,rfl⟩⟩ (fun b _=>⟨rfl,rfl⟩) rfl rfl rfl rfl (Nat.le_refl _) (fun b _ _=>⟨rfl,rfl⟩) rfl (fun b h=>by simp[aD]at h)
 ·rw[hv]at hbk
  have hob1:aw G w (aM [LV.cv (CV.tref lev i 103 2)]).fr cargs (μ++[(aM [LV.cv (CV.tref lev i 103 2)]).lam]) (.ob lev i 1) g:=by
   simp only[aw,hot]
   refine⟨cur,103,fz,B.heap,?_⟩
   have:=howns g (by rw[hv];simp[aD])
   exact this
  have hTg:ax G w (aM [LV.cv (CV.tref lev i 103 2)]) μ cargs g:= .inl ⟨_,hob1⟩
  have hne: ∀b,ax G w (aM [LV.cv (CV.tref lev i 103 2)]) (ci μ lev i .dead) cargs b→b≠g:=by
   intro b hb e
   subst e
   rcases hb with⟨q,hb⟩|⟨l,j,hb,e⟩
   ·rcases hO1 q b hb with h|⟨cs',k,h,_⟩
    ·have hq:=R.own q (.ob lev i 1) b h hob1
     subst hq
     obtain⟨cs',h,_⟩:=hO2 1 b hb
     cases h
    ·cases h
   ·exact R.apart (.ob lev i 1) b l j hob1 (hlv l j hb) e
  by_cases hx0:xs=[]
  ·subst hx0
   have hs0:s=[]:=by injection hbs with h;exact h.symm
   subst hs0
   have hcap:=h5 rfl
   subst hcap
   refine(Di hbk hg).mono fun e w2 ⟨k1,k2⟩=> ?_
   subst k1 k2
   rw[←hca]
   have hle:=oZ (G:=G) (w:=w.drew) (.view ⟨g,0,none⟩ 5) 0
   have hle2:Le G w (G.setO w.drew.heap.size 0) (w.drew.alloc (.view ⟨g,0,none⟩ 5)):=⟨hle.map,hle.ref,hle.imm,hle.blk⟩
   have hold: ∀b,b<w.heap.size→(w.drew.alloc (.view ⟨g,0,none⟩ 5)).heap[b]? =w.heap[b]? ∧(G.setO w.drew.heap.size 0).O b=G.O b:=fun b hb=>⟨heap_alloc_old w.drew _ hb,cR (Nat.ne_of_lt hb)⟩
   exact rN R1 hT1 hle2 (fun b hb=>hold b (R1.touch_lt hb)) rfl rfl rfl rfl (by simp[World.alloc]) (fun b hb _=>hold b hb) rfl (fun b h=>by simp[aD]at h)
  ·have he:e2=5:=h8 (by rw[hbs];rfl) hx0
   subst he
   have hxs2:=qe hbs
   have hlen:xs.length=s.length:=by rw[hxs2,Ip]
   have hs0:s≠[]:=by
    intro h
    rw[h]at hlen
    exact hx0 (List.eq_nil_of_length_eq_zero hlen)
   have hsz1:sz=1:=by
    cases xs with
    |nil=>exact absurd rfl hx0
    |cons c r=>
     have:=h4 c List.mem_cons_self
     have hc:c∈mD s:=by rw[←hxs2];exact List.mem_cons_self
     obtain⟨b,_,rfl⟩:=List.mem_map.1 hc
     exact this.symm
   subst hsz1
   obtain⟨olds,ho1,ho2⟩:=sa h6 h4
   have hcells: ∀(j:Nat) x,s[j]? =some x→w.cell? ⟨g,j,none⟩=some (.int .u8 x.toNat):=by
    intro j x hx
    have hflat:xs.flatMap CV.cells=mD s:=by rw[hxs2];exact pC s
    rw[hflat]at ho1
    obtain⟨v,hv1,hv2⟩:=(dQ ho1).2 j (CV.int .u8 (x.toNat:Int)) (by simp[mD,hx])
    simp only[VR]at hv2
    subst hv2
    have:=(ho2 j _ hv1).1
    simpa using this
   rw[hlen]at hbk h1
   refine(Dh hbk hs0 hg h1 h2' (by omega) hcells).mono fun e w2 ⟨k1,k2⟩=> ?_
   subst k1 k2
   rw[←hca]
   obtain⟨f1,⟨fz',f2⟩,f3,f4,f5,f6⟩:=B9 (n:=s.length) hg
   have hle:Le G w G (w.drew.freeze ⟨g,0,none⟩ s.length):=by
    refine⟨fun b es clk h hb=> ?_,fun _ _ h=>⟨h,rfl,rfl⟩,fun b off v h hc=>⟨h,?_⟩,fun b c e fz h=> ?_⟩
    ·have hb2:b≠g:=fun e=>by subst e;rw[hg]at hb;cases hb
     exact⟨h,by rw[f1 b hb2];exact hb⟩
    ·rw[←hc]
     unfold World.cell?
     by_cases hb2:b=g
     ·subst hb2
      simp only[f2,hg]
     ·simp only[f1 b hb2]
    ·by_cases hb2:b=g
     ·subst hb2
      rw[hg]at h
      obtain⟨rfl,rfl,rfl⟩:=(Obj.cells.injEq ..).mp (Option.some.inj h)
      exact⟨_,fz',f2,rfl⟩
     ·exact⟨c,fz,by rw[f1 b hb2];exact h,rfl⟩
   exact rN R1 hT1 hle (fun b hb=>⟨f1 b (hne b hb),rfl⟩) rfl f3 f4 f5 (by rw[f6];exact Nat.le_refl _) (fun b _ hn=>⟨f1 b (fun e=>hn (e▸hTg)),rfl⟩) rfl (fun b h=>by simp[aD]at h)
theorem MB (B:Base W0):sk E W0:=by
 intro f g hf args μ out h
 have hp:Hp f=some g:=hf
 unfold Hp at hp
 split at hp<;>first|(cases hp;done)|skip
 all_goals(injection hp with hp;subst hp)
 all_goals first
  |exact Hi B h
  |exact OX B h
  |exact OY B h
  |exact A6 B h
  |exact yD B h
  |exact C4 B h
  |exact A7 B h
  |exact Mq B h
  |exact C2 B h
  |exact Qw B h
  |exact C3 B h
  |exact yC B h
  |exact vT h
  |exact A5 h
  |exact Kc h
theorem Qo:E.P.follows .mixedOrders=true:=by kernel_rfl
end
end Go.Abs
set_option linter.unusedVariables false
set_option linter.unusedSimpArgs false
set_option maxRecDepth 100000
namespace Go.Proofs.YtfcjjankfjaapaaGreatDoor.TokensBlanks
open Go Go.Proofs Go.Abs Go.ChangeShapes Go.WideShapes Go.ChangeAt Go.RowKit Glue
theorem j8 (H:Type)(enc:TypeId×Value→H)(W:World)(base:Nat)(args:Array Value)(ds gs:List (DataW H))(before:List MemPlace)
  (hval: ∀(j:Nat) t v,Tryz.f5.params[j]? =some t→args[j]? =some v→Value.okWide Tryz.prog W .any base t v)
  (hW:DataW.Whole enc Tryz.prog Tryz.f5.params.toList Rows.tokensBlanksSpec.vars false W args.toList ds gs before) (hL:laidMetH Tryz.prog Rows.tokensBlanksRow.laid W) (hS:W.ShapedOpen Tryz.prog):
  Calls Tryz.prog 5 args W fun e W'=> ∃v,e= .returned v∧Rows.tokensBlanksSpec.post enc Tryz.prog Tryz.f5 false true false false W args v W':=by
 have hL':laidMet Tryz.prog sy W:=hL
 have B:=zL hL' hS
 have hW':=hW
 obtain⟨p,q,hA0,hV0,rfl,_,_⟩:=hW
 have hA:DataW.TrodAll enc Tryz.prog W 0 (fun _=>true) true Tryz.f5.params.toList args.toList ds p:=hA0
 rw[Tryz.params5]at hA hval
 obtain⟨v0,vs0,d0,ds0,p0,q0,e0,rfl,rfl,h0,r0⟩:=trodAll_cons hA
 obtain⟨v1,vs1,d1,ds1,p1,q1,e1,rfl,rfl,h1,r1⟩:=trodAll_cons r0
 obtain⟨rfl,rfl,rfl⟩:=trodAll_nil r1
 obtain rfl:args= #[v0,v1]:=by cases args;simp_all
 obtain⟨rfl,rfl⟩:=trodVars_none hV0
 obtain⟨c0,V0,I0⟩:=Ga.open_arg (n:=8) (l:=[.sl true [.int .i64,.int .i64,.str]]) (by kernel_rfl) (hval 0 32 v0 rfl rfl) h0
 obtain⟨x0,X0⟩:=Ga.is_toks (t:=32) (by kernel_rfl) I0
 obtain⟨c1,V1,I1⟩:=Ga.open_arg (n:=8) (l:=[.sl false [.int .i64]]) (by kernel_rfl) (hval 1 38 v1 rfl rfl) h1
 obtain⟨x1,X1⟩:=Ga.is_ints (t:=38) (by kernel_rfl) I1
 clear hA0 hV0
 simp only[List.append_nil]at hW'
 have hm:cD Tryz.prog W 5 ([c0,c1].map LV.cv) [] (.ret (LV.bool true) []):=by
  refine As Qo (MB B) ?_
  show (ev E).call 5 [LV.cv c0,LV.cv c1] []=_
  rw[(X0).1,(X1).1]
  exact Sk X0.2 X1.2
 refine(cD.bool (cargs:= #[v0,v1]) hm rfl (fun j x hx=> ?_)).mono fun e W' ⟨he,hk⟩=> ?_
 ·match j,hx with
  |0,hx=>injection hx with hx;subst hx;exact V0
  |1,hx=>injection hx with hx;subst hx;exact V1
 ·subst he
  exact⟨_,rfl,Ga.post_true (tb:=4) Ok (by kernel_rfl) Tryz.underlying4 (by kernel_rfl) rfl hW' rfl rfl rfl hk⟩
theorem Dl (os:Os){H:Type}(enc:TypeId×Value→H):
  (OpenSpec.ofChange Rows.tokensBlanksSpec).preRow enc Tryz.prog Tryz.f5 Rows.tokensBlanksRow.domain false Rows.tokensBlanksRow.laid ((gS os).forCall (fun _ _=>0) ⟨#[],#[.slice none 0 0,.slice none 0 0],[]⟩).memory #[.slice none 0 0,.slice none 0 0]:=by
 have hw:(DataW.whole enc Tryz.prog ((gS os).forCall (fun _ _=>0) ⟨#[],#[.slice none 0 0,.slice none 0 0],[]⟩).memory Tryz.f5.params.toList Rows.tokensBlanksSpec.vars false (#[.slice none 0 0,.slice none 0 0]:Array Value).toList 8).map (fun x=>(x.1,x.2.1))=
   some ([.nil,.nil],[]):=by kernel_rfl
 obtain⟨⟨x1,x2,x3⟩,hx,hx1⟩:=Option.map_eq_some_iff.1 hw
 simp only[Prod.mk.injEq]at hx1
 obtain⟨rfl,rfl⟩:=hx1
 exact OpenSpec.preRow_of_cond 8 hx (by kernel_rfl) (fun k hk=>by cases hk) (by kernel_rfl) (LK os _)
theorem P0 (os:Os)(started:os.Started)(H:Type)(enc:TypeId×Value→H)(F:Stop.Interp):
  ReturnsInHanded {} Tryz.checked os 5 .any ((OpenSpec.ofChange Rows.tokensBlanksSpec).preRow enc Tryz.prog Tryz.f5 Rows.tokensBlanksRow.domain false Rows.tokensBlanksRow.laid) (((OpenSpec.ofChange Rows.tokensBlanksSpec).at F).post enc Tryz.prog Tryz.f5 false true false false):=by
 refine returnsInHanded_of_row (C:=Tryz.checked) (s:=OpenSpec.ofChange Rows.tokensBlanksSpec) own started (by kernel_rfl) Tryz.func5
  (witness_row_atRef (enc:=enc) (C:=Tryz.checked) false (gS os) #[.slice none 0 0,.slice none 0 0] rfl (by kernel_rfl) (by kernel_rfl) (by kernel_rfl) (Dl os enc)) ?_
 intro W base args ds gs before hval hW _ _ _ hL hS _
 exact j8 H enc W base args ds gs before hval hW hL hS
theorem said:Rows.TokensBlanksSaid:=
 OpenClaim.holds_of_cond 5 Tryz.f5 rfl rfl rfl rfl rfl rfl rfl ⟨rfl,rfl,rfl,rfl,rfl⟩ rfl rfl rfl rfl rfl (by kernel_rfl) Tryz.func5 (by kernel_rfl)
  (of_decide_eq_true (by kernel_rfl)) (by unfold Func.isWrapper;first|(rw[if_pos (by decide+kernel)];kernel_rfl)|(rw[if_neg (by decide+kernel)];exact⟨rfl,rfl⟩))
  (fun os started H enc _ F=>by rw[OpenClaim.pre_eq_preRow];exact P0 os started H enc F)
theorem plain (f:FuncId)(fn:Func)(hf:Tryz.pinned.checked.prog.funcNamed "formulary/formularylaw03.TokensBlanks" =some f)(hfn:Tryz.pinned.checked.prog.funcs[f]? =some fn):
  true=Tryz.pinned.checked.prog.looks []∧ ∀(j:Nat) t,fn.params[j]? =some t→Tryz.pinned.checked.prog.wantsStandIn t=false:=by
 obtain rfl:f=5:=Option.some.inj ((show Tryz.prog.funcNamed "formulary/formularylaw03.TokensBlanks" =some 5 by kernel_rfl).symm.trans hf) |>.symm
 obtain rfl:fn=Tryz.f5:=(Option.some.inj (Tryz.func5.symm.trans hfn)).symm
 refine⟨by kernel_rfl,fun j t ht=> ?_⟩
 rw[Tryz.params5]at ht
 have hm:=Array.mem_of_getElem? ht
 simp only[List.mem_toArray,List.mem_cons,List.not_mem_nil,or_false]at hm
 rcases hm with rfl|rfl
 ·exact(show Tryz.prog.wantsStandIn 32=false by kernel_rfl)
 ·exact(show Tryz.prog.wantsStandIn 38=false by kernel_rfl)
end Go.Proofs.YtfcjjankfjaapaaGreatDoor.TokensBlanks
namespace Go.Proofs.YtfcjjankfjaapaaGreatDoor
theorem tokensBlanks_holds:Rows.TokensBlanksCardSaid:=
 Claim7.holds_tied_plain_at .later [] _ _ _ _ TokensBlanks.said (fun _ h=>by cases h) (by kernel_rfl) (fun _ h=>by cases h) tokensBlanks_row_tie rfl ⟨rfl,rfl⟩ (by kernel_rfl) rfl TokensBlanks.plain (by kernel_rfl)
#print axioms tokensBlanks_holds
end Go.Proofs.YtfcjjankfjaapaaGreatDoor
