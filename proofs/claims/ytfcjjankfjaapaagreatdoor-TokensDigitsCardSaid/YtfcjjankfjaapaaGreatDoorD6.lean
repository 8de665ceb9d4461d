/-
  The statement TokensDigitsCardSaid, proved; part 7 of 7 of its proof.
  The reference's CHARACTER constants and tokens.
  The reference's next token is the program's.
  The chapter's examples, by running the interpreter.
  The tokens of any text in free form.
  Which names, constants and tokens are valid: the two ways in which it is asked.
  The reference's errors of constants and tokens.
  Both ways to ask which constants and tokens are valid answer the same.
  TokensChecks: which constants and tokens are valid.
  TokensConstants: the constant that a text is, the characters of a constant, and the constant of characters.
  REAL and DOUBLE constants: their canonical texts.
  The digits of a constant.
  The digits of a constant, by the reference; the constant of digits, by both.
  TokensDigits.
  TokensDigits: the law.
  The library's functions that are taken by contract: the builder's copy check and its text.
  TokensDigits answers true for every argument, and its arguments read as they did.
-/
import Derived.Test.YtfcjjankfjaapaaGreatDoorD5
import Derived.Test.YtfcjjankfjaapaaGreatDoorD2
import Derived.KernelRfl
import Derived.Test.YtfcjjankfjaapaaGreatDoorD3
import Derived.Shelf.Strings.BuilderK
import Derived.Test.YtfcjjankfjaapaaGreatDoorCards
import Derived.Test.YtfcjjankfjaapaaGreatDoorTie
import Derived.WalkKit
import Derived.OpenShut
set_option linter.all false
set_option linter.unusedSectionVars false
set_option linter.unusedVariables false
set_option linter.unusedSimpArgs false
set_option maxRecDepth 100000
namespace Go.Abs
open Go Go.Proofs
section
variable {μ:Mu}{s:List UInt8}
theorem yG {x y:UInt8}:decide ((x.toNat:Int)=(y.toNat:Int))=decide (x=y):=by
 by_cases h:x=y
 ·subst h;simp
 ·have:x.toNat≠y.toNat:=fun e=>h (UInt8.toNat.inj e)
  simp[h];omega
def ke (t:List UInt8)(e:Nat):Except Int (Tok×Nat):=if 60<t.length then .error 8 else .ok (⟨1,6,fY t⟩,e)
noncomputable def ue (μ:Mu)(acc:List UInt8)(i:Nat)(a b c d:Int)(t:List UInt8):Option (List UInt8×Nat)→St
 |none=>sQ a b t c d μ
 |some (x,k)=>stN μ tU (ke (acc++x) (i+k))
theorem OI (hs:s.length≤200000){q:UInt8}{a b c d:Int}{t:List UInt8}: ∀(k i:Nat) (acc:List UInt8),s.length-i≤k→i≤s.length→acc.length≤i→
  xR (ev E) s (q.toNat:Int) acc (i:Int) a b t c d μ=some (ue μ acc i a b c d t (ct q (s.drop i))):=by
 intro k
 induction k using Nat.strongRecOn with
 |_ k ih=>
  intro i acc hk hi ha
  by_cases hlt:i<s.length
  ·have hd:=List.drop_eq_getElem_cons hlt
   refine bb ?_
   rw[DE,dg hlt,cond_true,bH hlt,aa,yG,bV (by omega),Fx hlt,aa,bj (by simp;omega),aw,hd]
   by_cases hq:s[i]=q
   ·have hq1:decide (s[i]=q)=true:=by simp[hq]
    rw[hq1,Bool.not_true,cond_false,hq]
    have h11: ∀{i:Nat},i<s.length→(opt (uQ (ev E) acc (i:Int) a b t c d μ) (kS (ev E) H81 [] [(0,0),(4,0),(5,0),(6,0),(7,0)]))=some (stN μ pm (ke acc (i+1))):=by
     intro i hlt
     have:uQ (ev E) acc (i:Int) a b t c d μ=some (stN μ mU (ke acc (i+1))):=by
      refine aO ?_
      rw[JU]
      unfold ke
      by_cases h60:60<acc.length
      ·have:decide ((60:Int)<(acc.length:Int))=true:=by simp;omega
       rw[this,cond_true,if_pos h60]
       rfl
      ·have:decide ((60:Int)<(acc.length:Int))=false:=by simp;omega
       have hG:I3 (ev E) acc (i:Int) a b t c d μ=some (pY 1 6 (fY acc) ((i+1:Nat):Int) 0 μ):=by
        refine aO ?_
        rw[KN,PU (by omega)]
        simp only[ad,ao,aa,aj,am,ah,ae,ak,aw,cond_true,cond_false,Bool.not_true,Bool.not_false,ar,au,aq]
        rw[bV (by omega)]
       rw[this,cond_false,if_neg h60,hG,aa,Bx]
       rfl
     rw[this,aa]
     cases ke acc (i+1)with
     |ok q=>exact sn _ _ _ _ _ _ _
     |error e=>exact sn _ _ _ _ _ _ _
    by_cases hlt2:i+1<s.length∧s[i+1]? =some q
    ·obtain⟨h2,h3⟩:=hlt2
     have hd2:=List.drop_eq_getElem_cons h2
     have hg2:s[i+1]=q:=by rw[List.getElem?_eq_getElem h2]at h3;simpa using h3
     have hG:FL (ev E) s (q.toNat:Int) acc (i:Int) a b t c d μ=some (tQ s (q.toNat:Int) (acc++[q]) ((i+1:Nat):Int) a b t c d μ):=by
      refine aO ?_
      have hq2:decide (q=q)=true:=by simp
      rw[DA,bV (by omega),dg h2,cond_true,bH h2,aa,yG,hg2,hq2,cond_true,Fx hlt,aa,bj (by simp;omega),aw,hq]
     rw[hG,aa,Gg,bV (by omega),ih (s.length-(i+1+1)) (by omega) (i+1+1) (acc++[q]) (Nat.le_refl _) (by omega) (by simp;omega),hd2,hg2,p9]
     cases ct q (s.drop (i+1+1))with
     |none=>rfl
     |some x=>
      simp only[ue,Option.map_some]
      have e1:i+1+1+x.2=i+(x.2+2):=by omega
      rw[e1]
      simp
    ·have hne: ∀d u,s.drop (i+1)=d::u→d≠q:=by
      intro d u hdu hdq
      apply hlt2
      have h2:i+1<s.length:=by
       rcases Nat.lt_or_ge (i+1) s.length with h|h
       ·exact h
       ·rw[List.drop_eq_nil_of_le h]at hdu;cases hdu
      refine⟨h2,?_⟩
      rw[List.drop_eq_getElem_cons h2]at hdu
      injection hdu with hdu _
      rw[List.getElem?_eq_getElem h2,hdu,hdq]
     have hG:FL (ev E) s (q.toNat:Int) acc (i:Int) a b t c d μ=some (stN μ pm (ke acc (i+1))):=by
      refine aO ?_
      rw[DA,bV (by omega)]
      by_cases h2:i+1<s.length
      ·have h3:s[i+1]≠q:=fun h=>hlt2 ⟨h2,by rw[List.getElem?_eq_getElem h2,h]⟩
       have h4:decide (s[i+1]=q)=false:=by simp[h3]
       rw[dg h2,cond_true,bH h2,aa,yG,h4,cond_false,h11 hlt]
      ·rw[dN (by omega),cond_false,h11 hlt]
     rw[hG,aa,ky hne]
     simp only[ue,List.append_nil]
     cases ke acc (i+1)with
     |ok q=>exact uC _ _ _ _ _ _ _
     |error e=>exact uC _ _ _ _ _ _ _
   ·have hq1:decide (s[i]=q)=false:=by simp[hq]
    rw[hq1,Bool.not_false,cond_true,ih (s.length-(i+1)) (by omega) (i+1) (acc++[s[i]]) (Nat.le_refl _) (by omega) (by simp;omega),o2 hq]
    cases ct q (s.drop (i+1))with
    |none=>rfl
    |some x=>
     simp only[ue,Option.map_some]
     have e1:i+1+x.2=i+(x.2+1):=by omega
     rw[e1]
     simp
  ·refine bb ?_
   rw[DE,dN (by omega),cond_false,List.drop_eq_nil_of_le (by omega)]
   rfl
theorem PV (hs:s.length≤200000){n:Nat}(hn:n<s.length):(ev E).call 81 [LV.str s,LV.int .i64 (n:Int)] μ=some (.ret (.cv (kz (dP s n))) μ):=by
 refine aK ?_
 rw[QU,bH hn,aa,bV (by omega),OI hs (s.length-(n+1)) (n+1) [] (Nat.le_refl _) (by omega) (by simp),aa]
 unfold dP
 rw[List.getElem?_eq_getElem hn,Option.getD_some]
 cases hq:ct s[n] (s.drop (n+1))with
 |none=>exact E6 _ _ _ _ _ _ _
 |some x=>
  obtain⟨t,k⟩:=x
  simp only[ue,List.nil_append]
  unfold ke
  by_cases h60:60<t.length
  ·rw[if_pos h60];exact uy _ _ _ _ _ _ _
  ·rw[if_neg h60];exact uy _ _ _ _ _ _ _
theorem OX (hs:s.length≤200000){n:Nat}{a b c d:Int}{t:List UInt8}: ∀(k i:Nat),i+k=s.length→
  rW (ev E) s (n:Int) (i:Int) a b t c d μ=some (mi s (n:Int) ((i+((s.drop i).takeWhile bI).length:Nat):Int) a b t c d μ):=by
 have e95: ∀c:UInt8,decide ((c.toNat:Int)=95)=decide (c.toNat=95):=fun c=>by simp;omega
 intro k
 induction k with
 |zero=>
  intro i hi
  refine bb ?_
  rw[CO,dN (by omega),cond_false,List.drop_eq_nil_of_le (by omega)]
  rfl
 |succ k ih=>
  intro i hi
  have hlt:i<s.length:=by omega
  have hy: ∀{q:Bool},bI s[i]=q→(q=true→rW (ev E) s (n:Int) ((i+1:Nat):Int) a b t c d μ=some (mi s (n:Int) ((i+((s.drop i).takeWhile bI).length:Nat):Int) a b t c d μ))∧(q=false→i+((s.drop i).takeWhile bI).length=i):=by
   intro q hq
   rw[List.drop_eq_getElem_cons hlt,List.takeWhile_cons,hq]
   constructor
   ·intro h
    rw[ih (i+1) (by omega),h]
    simp only[if_true,List.length_cons]
    congr 3
    omega
   ·intro h;rw[h];rfl
  refine bb ?_
  rw[CO,dg hlt,cond_true,bH hlt,aa,Mp]
  simp only[ad,ao,aa,aj,am,ah,ae,ak,aw,cond_true,cond_false,Bool.not_true,Bool.not_false,ar,au,aq,e95]
  rw[bV (by omega)]
  have hp:bI s[i]=(bg s[i]||ay s[i]||decide (s[i].toNat=95)):=rfl
  cases h1:bg s[i]with
  |true=>
   rw[cond_true]
   exact(hy (by rw[hp,h1];rfl)).1 rfl
  |false=>
   rw[cond_false,rG]
   simp only[ad,ao,aa,aj,am,ah,ae,ak,aw,cond_true,cond_false,Bool.not_true,Bool.not_false,ar,au,aq]
   cases h2:ay s[i]with
   |true=>
    rw[cond_true]
    exact(hy (by rw[hp,h1,h2];rfl)).1 rfl
   |false=>
    rw[cond_false]
    cases h3:decide (s[i].toNat=95)with
    |true=>
     rw[cond_true]
     exact(hy (by rw[hp,h1,h2,h3];rfl)).1 rfl
    |false=>
     rw[cond_false,(hy (q:=false) (by rw[hp,h1,h2,h3];rfl)).2 rfl]
def kT:List (List UInt8×List UInt8):=[([60,61],[46,76,69,46]),([62,61],[46,71,69,46]),([61,61],[46,69,81,46]),([47,61],[46,78,69,46]),([60],[46,76,84,46]),([62],[46,71,84,46])]
def p3 (l:List (List UInt8×List UInt8)):List CV:=l.map fun x=>CV.agg [CV.str x.1,CV.str x.2]
def toE:Except Int (Tok×Nat)→Nat
 | .ok q=>q.2
 | .error _=>0
def eA (s:List UInt8)(n:Nat):List (List UInt8×List UInt8)→Except Int (Tok×Nat)→Except Int (Tok×Nat)
 |[],r=>r
 |x::l,r=>eA s n l (if bp s n x.1=true∧toE r<n+x.1.length then .ok (⟨2,0,x.2⟩,n+x.1.length)else r)
def stB {α:Sort _}(X:Int→Int→List UInt8→Int→Int→α):Except Int (Tok×Nat)→α
 | .ok q=>X q.1.kind q.1.type q.1.text (q.2:Int) 0
 | .error e=>X 0 0 [] 0 e
theorem HN (hs:s.length≤200000){n:Nat}(hn:n≤s.length){a b c d:Int}{t:List UInt8}{l:List (List UInt8×List UInt8)}(hl:l.length≤100)(hw: ∀x∈l,x.1.length≤100): ∀(k j:Nat) (r:Except Int (Tok×Nat)),j+k=l.length→
  stB (fun p q u v w=>pU (ev E) s (n:Int) (p3 l) (l.length:Int) (j:Int) a b t c d p q u v w μ) r=some (stB (fun p q u v w=>q5 s (n:Int) a b t c d p q u v w μ) (eA s n (l.drop j) r)):=by
 intro k
 induction k with
 |zero=>
  intro j r hj
  rw[List.drop_eq_nil_of_le (by omega)]
  cases r with
  |ok q=>
   refine bb ?_
   rw[oI,dN (by omega),cond_false]
   rfl
  |error e=>
   refine bb ?_
   rw[oI,dN (by omega),cond_false]
   rfl
 |succ k ih=>
  intro j r hj
  have hlt:j<l.length:=by omega
  have hg:dZ (p3 l) (j:Int)=some (CV.agg [CV.str l[j].1,CV.str l[j].2]):=by rw[iC];simp[p3,hlt]
  have hrd: ∀{β:Type} {k:List UInt8→List UInt8→Option β},L5 (LV.cv (CV.agg [CV.str l[j].1,CV.str l[j].2])) k=k l[j].1 l[j].2:=rfl
  have hwl:=hw _ (List.getElem_mem hlt)
  rw[List.drop_eq_getElem_cons hlt,eA]
  have hih:=fun r=>ih (j+1) r (by omega)
  cases r with
  |ok q=>
   refine bb ?_
   rw[oI,dg hlt,cond_true,hg,aa,hrd,nX hs hn (by omega)]
   simp only[ad,ao,aa,aj,am,ah,ae,ak,aw,cond_true,cond_false,Bool.not_true,Bool.not_false,ar,au,aq]
   rw[bV (by omega),ge (by omega)]
   cases hb:bp s n l[j].1 with
   |false=>
    rw[cond_false,if_neg (by simp)]
    exact hih (.ok q)
   |true=>
    rw[cond_true]
    by_cases h2:q.2<n+l[j].1.length
    ·rw[dg h2,cond_true,if_pos ⟨rfl,h2⟩]
     exact hih (.ok (⟨2,0,l[j].2⟩,n+l[j].1.length))
    ·rw[dN (by omega),cond_false,if_neg (fun h=>h2 h.2)]
     exact hih (.ok q)
  |error e=>
   refine bb ?_
   rw[oI,dg hlt,cond_true,hg,aa,hrd,nX hs hn (by omega)]
   simp only[ad,ao,aa,aj,am,ah,ae,ak,aw,cond_true,cond_false,Bool.not_true,Bool.not_false,ar,au,aq]
   rw[bV (by omega),ge (by omega)]
   cases hb:bp s n l[j].1 with
   |false=>
    rw[cond_false,if_neg (by simp)]
    exact hih (.error e)
   |true=>
    rw[cond_true]
    by_cases h2:0<n+l[j].1.length
    ·have:=dg h2
     have e0:((0:Nat):Int)=0:=rfl
     rw[e0]at this
     rw[this,cond_true,if_pos ⟨rfl,h2⟩]
     exact hih (.ok (⟨2,0,l[j].2⟩,n+l[j].1.length))
    ·have:=dN (n:=0) (m:=n+l[j].1.length) (by omega)
     have e0:((0:Nat):Int)=0:=rfl
     rw[e0]at this
     rw[this,cond_false,if_neg (fun h=>h2 h.2)]
     exact hih (.error e)
def kY (l:List (List UInt8)):List (List UInt8×List UInt8):=l.map fun x=>(x,x)
theorem IM (hs:s.length≤200000){n:Nat}(hn:n≤s.length){a b c d:Int}{t:List UInt8}{l:List (List UInt8)}(hl:l.length≤100)(hw: ∀x∈l,x.length≤100): ∀(k j:Nat) (r:Except Int (Tok×Nat)),j+k=l.length→
  stB (fun p q u v w=>ni (ev E) s (n:Int) (bA l) (l.length:Int) (j:Int) a b t c d p q u v w μ) r=some (stB (fun p q u v w=>kE a b t c d p q u v w μ) (eA s n (kY (l.drop j)) r)):=by
 intro k
 induction k with
 |zero=>
  intro j r hj
  rw[List.drop_eq_nil_of_le (by omega)]
  cases r with
  |ok q=>
   refine bb ?_
   rw[oT,dN (by omega),cond_false]
   rfl
  |error e=>
   refine bb ?_
   rw[oT,dN (by omega),cond_false]
   rfl
 |succ k ih=>
  intro j r hj
  have hlt:j<l.length:=by omega
  have hg:dZ (bA l) (j:Int)=some (CV.str l[j]):=by rw[iC];simp[bA,hlt]
  have hwl:=hw _ (List.getElem_mem hlt)
  have hsel:kY (l[j]::l.drop (j+1))=(l[j],l[j])::kY (l.drop (j+1)):=rfl
  rw[List.drop_eq_getElem_cons hlt,hsel,eA]
  have hih:=fun r=>ih (j+1) r (by omega)
  cases r with
  |ok q=>
   refine bb ?_
   rw[oT,dg hlt,cond_true,hg,aa,iS,aa,nX hs hn (by omega)]
   simp only[ad,ao,aa,aj,am,ah,ae,ak,aw,cond_true,cond_false,Bool.not_true,Bool.not_false,ar,au,aq]
   rw[bV (by omega),ge (by omega)]
   cases hb:bp s n l[j]with
   |false=>
    rw[cond_false,if_neg (by simp)]
    exact hih (.ok q)
   |true=>
    rw[cond_true]
    by_cases h2:q.2<n+l[j].length
    ·rw[dg h2,cond_true,if_pos ⟨rfl,h2⟩]
     exact hih (.ok (⟨2,0,l[j]⟩,n+l[j].length))
    ·rw[dN (by omega),cond_false,if_neg (fun h=>h2 h.2)]
     exact hih (.ok q)
  |error e=>
   refine bb ?_
   rw[oT,dg hlt,cond_true,hg,aa,iS,aa,nX hs hn (by omega)]
   simp only[ad,ao,aa,aj,am,ah,ae,ak,aw,cond_true,cond_false,Bool.not_true,Bool.not_false,ar,au,aq]
   rw[bV (by omega),ge (by omega)]
   cases hb:bp s n l[j]with
   |false=>
    rw[cond_false,if_neg (by simp)]
    exact hih (.error e)
   |true=>
    rw[cond_true]
    by_cases h2:0<n+l[j].length
    ·have:=dg h2
     have e0:((0:Nat):Int)=0:=rfl
     rw[e0]at this
     rw[this,cond_true,if_pos ⟨rfl,h2⟩]
     exact hih (.ok (⟨2,0,l[j]⟩,n+l[j].length))
    ·have:=dN (n:=0) (m:=n+l[j].length) (by omega)
     have e0:((0:Nat):Int)=0:=rfl
     rw[e0]at this
     rw[this,cond_false,if_neg (fun h=>h2 h.2)]
     exact hih (.error e)
theorem Mw:(ev E).call 56 [] μ=some (.ret (LV.osl (bA bW)) μ):=aK (by rw[Qq];rfl)
theorem OJ:(ev E).call 100 [] μ=some (.ret (LV.osl (p3 kT)) μ):=aK (by rw[PP];rfl)
def oM (s:List UInt8)(n:Nat):Except Int (Tok×Nat):=eA s n (kY bW) (eA s n kT (.error 7))
theorem Ls (hs:s.length≤200000){n:Nat}(hn:n≤s.length){a b c d:Int}{t:List UInt8}:IS (ev E) s (n:Int) a b t c d μ=some (stN μ mR (oM s n)):=by
 refine aO ?_
 rw[JY,OJ]
 simp only[ad,ao,aa,aj,am,ah,ae,ak,aw,cond_true,cond_false,Bool.not_true,Bool.not_false,ar,au,aq]
 have h1:=HN (μ:=μ) hs hn (a:=a) (b:=b) (c:=c) (d:=d) (t:=t) (l:=kT) (by decide) (by decide) kT.length 0 (.error 7) (by omega)
 have e0:((0:Nat):Int)=0:=rfl
 have e1:(p3 kT).length=kT.length:=rfl
 have e2:(bA bW).length=bW.length:=rfl
 rw[e0,List.drop_zero]at h1
 simp only[stB]at h1
 have h2: ∀r,stB (fun p q u v w=>ni (ev E) s (n:Int) (bA bW) (bW.length:Int) 0 a b t c d p q u v w μ) r=some (stB (fun p q u v w=>kE a b t c d p q u v w μ) (eA s n (kY bW) r)):=by
  intro r
  have:=IM (μ:=μ) hs hn (a:=a) (b:=b) (c:=c) (d:=d) (t:=t) (l:=bW) (by decide) (by decide) bW.length 0 r (by omega)
  rw[e0,List.drop_zero]at this
  exact this
 rw[e1,h1,aa]
 unfold oM
 have h3:=h2 (eA s n kT (.error 7))
 have fin: ∀r,kS (ev E) H58 [.block 9,.seq (cA 58 [1,1,1,1,1,1])] [(4,0)] (stB (fun p q u v w=>kE a b t c d p q u v w μ) r)=some (stN μ mR r):=by
  intro r
  cases r with
  |ok q=>exact sq _ _ _ _ _ _ _ _ _ _ _ _
  |error e=>exact sq _ _ _ _ _ _ _ _ _ _ _ _
 cases hr:eA s n kT (.error 7)with
 |ok q=>
  rw[hr]at h3
  simp only[stB]at h3 ⊢
  rw[sk,Mw]
  simp only[ad,ao,aa,aj,am,ah,ae,ak,aw,cond_true,cond_false,Bool.not_true,Bool.not_false,ar,au,aq]
  rw[e2,h3,aa]
  exact fin _
 |error e=>
  rw[hr]at h3
  simp only[stB]at h3 ⊢
  rw[sk,Mw]
  simp only[ad,ao,aa,aj,am,ah,ae,ak,aw,cond_true,cond_false,Bool.not_true,Bool.not_false,ar,au,aq]
  rw[e2,h3,aa]
  exact fin _
def xN (s:List UInt8)(n:Nat)(l:List (List UInt8))(kind type:Int)(els:Except Int (Tok×Nat)):Except Int (Tok×Nat):=
 match l.find? (bp s n)with|some w=> .ok (⟨kind,type,w⟩,n+w.length)|none=>els
theorem HR (hs:s.length≤200000){n:Nat}(hn:n≤s.length){a b c d:Int}{t:List UInt8}{l:List (List UInt8)}(hl:l.length≤100)(hw: ∀x∈l,x.length≤100): ∀(k j:Nat),j+k=l.length→
  zi (ev E) s (n:Int) (bA l) (l.length:Int) (j:Int) a b t c d μ=some (match(l.drop j).find? (bp s n)with|some w=>ri 2 0 w ((n+w.length:Nat):Int) 0 μ|none=>qD s (n:Int) a b t c d μ):=by
 intro k
 induction k with
 |zero=>
  intro j hj
  refine bb ?_
  rw[yr,dN (by omega),cond_false,List.drop_eq_nil_of_le (by omega)]
  rfl
 |succ k ih=>
  intro j hj
  have hlt:j<l.length:=by omega
  have hg:dZ (bA l) (j:Int)=some (CV.str l[j]):=by rw[iC];simp[bA,hlt]
  have hwl:=hw _ (List.getElem_mem hlt)
  refine bb ?_
  rw[yr,dg hlt,cond_true,hg,aa,iS,aa,nX hs hn (by omega)]
  simp only[ad,ao,aa,aj,am,ah,ae,ak,aw,cond_true,cond_false,Bool.not_true,Bool.not_false,ar,au,aq]
  rw[bV (by omega),ge (by omega),ih (j+1) (by omega),List.drop_eq_getElem_cons hlt,List.find?_cons]
  cases hb:bp s n l[j]<;>rfl
theorem JR (hs:s.length≤200000){n:Nat}(hn:n≤s.length){a b c d:Int}{t:List UInt8}{l:List (List UInt8)}(hl:l.length≤100)(hw: ∀x∈l,x.length≤100): ∀(k j:Nat),j+k=l.length→
  yU (ev E) s (n:Int) (bA l) (l.length:Int) (j:Int) a b t c d μ=some (match(l.drop j).find? (bp s n)with|some w=>qF 1 5 w ((n+w.length:Nat):Int) 0 μ|none=>qu a b t c d μ):=by
 intro k
 induction k with
 |zero=>
  intro j hj
  refine bb ?_
  rw[Al,dN (by omega),cond_false,List.drop_eq_nil_of_le (by omega)]
  rfl
 |succ k ih=>
  intro j hj
  have hlt:j<l.length:=by omega
  have hg:dZ (bA l) (j:Int)=some (CV.str l[j]):=by rw[iC];simp[bA,hlt]
  have hwl:=hw _ (List.getElem_mem hlt)
  refine bb ?_
  rw[Al,dg hlt,cond_true,hg,aa,iS,aa,nX hs hn (by omega)]
  simp only[ad,ao,aa,aj,am,ah,ae,ak,aw,cond_true,cond_false,Bool.not_true,Bool.not_false,ar,au,aq]
  rw[bV (by omega),ge (by omega),ih (j+1) (by omega),List.drop_eq_getElem_cons hlt,List.find?_cons]
  cases hb:bp s n l[j]<;>rfl
def rz (s:List UInt8)(n:Nat):Except Int (Tok×Nat):=xN s n dn 2 0 (xN s n [eK,d5] 1 5 (.error 7))
def xS (s:List UInt8)(n:Nat)(c:UInt8):Except Int (Tok×Nat):=
 if bg c then(if 31<((s.drop n).takeWhile bI).length then .error 4 else .ok (⟨0,0,((s.drop n).takeWhile bI).map upB⟩,n+((s.drop n).takeWhile bI).length))
 else if ay c||(decide (c=46)&&ay ((s[n+1]?).getD 0))then f9 s n
 else if c=46 then rz s n
 else if c=39∨c=34 then dP s n
 else oM s n
theorem mN {β:Type}{q:Except Int (Tok×Nat)}{k:Int→Int→List UInt8→Int→Int→Option β}:zD (.cv (kz q)) k=stB k q:=by cases q<;>rfl
theorem Kz (hs : s.length ≤ 200000) {n : Nat} (hn : n < s.length) {x : Bool} {a b c d : Int} {t : List UInt8} : nD (ev E) s (n : Int) (s[n].toNat : Int) x a b t c d μ = some (
  if x=true then stN μ da (f9 s n)else if s[n]=46 then stN μ da (rz s n)else if s[n]=39∨s[n]=34 then stN μ da (dP s n)else rl s (n:Int) a b t c d μ):=by
 have e46: ∀c:UInt8,decide ((c.toNat:Int)=46)=decide (c=46):=fun c=>bG (k:=46) (by omega)
 have e39: ∀c:UInt8,decide ((c.toNat:Int)=39)=decide (c=39):=fun c=>bG (k:=39) (by omega)
 have e34: ∀c:UInt8,decide ((c.toNat:Int)=34)=decide (c=34):=fun c=>bG (k:=34) (by omega)
 have hst: ∀(q:Except Int (Tok×Nat)),stB (fun p q u v w=>some (da p q u v w μ)) q=some (stN μ da q):=by intro q;cases q<;>rfl
 refine aO ?_
 rw[J8,PQ hs (by omega),e46,e39,e34,PV hs hn,ad,ad,mN,mN,hst,hst]
 cases x with
 |true=>rw[cond_true,if_pos rfl]
 |false=>
  rw[cond_false,if_neg (by simp)]
  by_cases h46:s[n]=46
  ·have:decide (s[n]=46)=true:=by simp[h46]
   rw[this,cond_true,if_pos h46,Mh]
   simp only[ad,ao,aa,aj,am,ah,ae,ak,aw,cond_true,cond_false,Bool.not_true,Bool.not_false,ar,au,aq]
   have e2:(bA dn).length=dn.length:=rfl
   have e0:((0:Nat):Int)=0:=rfl
   have h14:=HR (μ:=μ) hs (Nat.le_of_lt hn) (a:=a) (b:=b) (c:=c) (d:=d) (t:=t) (l:=dn) (by decide) (by decide) dn.length 0 (by omega)
   rw[e0,List.drop_zero]at h14
   have h20:=JR (μ:=μ) hs (Nat.le_of_lt hn) (a:=a) (b:=b) (c:=c) (d:=d) (t:=t) (l:=[eK,d5]) (by decide) (by decide) 2 0 (by simp)
   rw[e0,List.drop_zero]at h20
   rw[e2,h14,aa]
   unfold rz xN
   cases hf:dn.find? (bp s n)with
   |some w=>simp only;rw[A2];rfl
   |none=>
    simp only
    have e3:[CV.str ([46,84,82,85,69,46]:List UInt8),CV.str ([46,70,65,76,83,69,46]:List UInt8)]=bA [eK,d5]:=rfl
    have e4:(2:Int)=(([eK,d5]:List (List UInt8)).length:Int):=rfl
    rw[Co,e3]
    rw[←e4]at h20
    rw[h20,aa]
    cases hf2:([eK,d5]:List (List UInt8)).find? (bp s n)with
    |some w=>simp only;rw[AP];rfl
    |none=>simp only;rw[AQ];rfl
  ·have:decide (s[n]=46)=false:=by simp[h46]
   rw[this,cond_false,if_neg h46]
   by_cases h39:s[n]=39
   ·simp[h39]
   ·by_cases h34:s[n]=34
    ·simp[h34]
    ·simp[h39,h34]
theorem Mt (hs:s.length≤200000){n:Nat}(hn:n<s.length):(ev E).call 58 [LV.str s,LV.int .i64 (n:Int)] μ=some (.ret (.cv (kz (xS s n s[n]))) μ):=by
 have e46: ∀c:UInt8,decide ((c.toNat:Int)=46)=decide (c=46):=fun c=>bG (k:=46) (by omega)
 refine aK ?_
 rw[QW,bH hn,aa,Mp]
 simp only[ad,ao,aa,aj,am,ah,ae,ak,aw,cond_true,cond_false,Bool.not_true,Bool.not_false,ar,au,aq]
 unfold xS
 cases hlet:bg s[n]with
 |true=>
  have htw:((s.drop n).takeWhile bI).length≤s.length-n:=by
   have:=(List.takeWhile_sublist bI (l:=s.drop n)).length_le
   rw[List.length_drop]at this
   exact this
  rw[cond_true,OX hs (s.length-n) n (by omega),aa,Gr,Rg (by omega) (by omega)]
  have e1:n+((s.drop n).takeWhile bI).length-n=((s.drop n).takeWhile bI).length:=by omega
  rw[e1,if_pos rfl]
  by_cases h31:31<((s.drop n).takeWhile bI).length
  ·have:decide ((31:Int)<(((s.drop n).takeWhile bI).length:Int))=true:=by simp;omega
   rw[this,cond_true,if_pos h31]
   rfl
  ·have:decide ((31:Int)<(((s.drop n).takeWhile bI).length:Int))=false:=by simp;omega
   have hcut:(s.drop n).take ((s.drop n).takeWhile bI).length=(s.drop n).takeWhile bI:=(List.prefix_iff_eq_take.1 (List.takeWhile_prefix _)).symm
   have hG: ∀{a b c d:Int} {t:List UInt8},Ml (ev E) s (n:Int) ((n+((s.drop n).takeWhile bI).length:Nat):Int) a b t c d μ=some (tB 0 0 (((s.drop n).takeWhile bI).map upB) ((n+((s.drop n).takeWhile bI).length:Nat):Int) 0 μ):=by
    intro a b c d t
    refine aO ?_
    rw[NQ,dz (by omega) (by omega),aa,e1,hcut,My (by omega)]
    simp only[ad,ao,aa,aj,am,ah,ae,ak,aw,cond_true,cond_false,Bool.not_true,Bool.not_false,ar,au,aq]
   rw[this,cond_false,if_neg h31,hG,aa,Ea]
   rfl
 |false=>
  rw[cond_false,rG]
  simp only[ad,ao,aa,aj,am,ah,ae,ak,aw,cond_true,cond_false,Bool.not_true,Bool.not_false,ar,au,aq,Bool.false_eq_true,if_false,e46]
  have hfin: ∀{x:Bool} {a b c d:Int} {t:List UInt8},(ay s[n]||(decide (s[n]=46)&&ay ((s[n+1]?).getD 0)))=x→(opt (nD (ev E) s (n:Int) (s[n].toNat:Int) x a b t c d μ) (kB (ev E) 58 H58 [.block 0,.seq (cA 58 [1,1,1])]))=
    some (.ret (.cv (kz (if(ay s[n]||(decide (s[n]=46)&&ay ((s[n+1]?).getD 0)))=true then f9 s n else if s[n]=46 then rz s n else if s[n]=39∨s[n]=34 then dP s n else oM s n))) μ):=by
   intro x a b c d t hx
   have f0: ∀q:Except Int (Tok×Nat),kB (ev E) 58 H58 [.block 0,.seq (cA 58 [1,1,1])] (stN μ da q)=some (.ret (.cv (kz q)) μ):=by
    intro q
    cases q with
    |ok q=>exact sa _ _ _ _ _ _ _
    |error e=>exact sa _ _ _ _ _ _ _
   rw[Kz hs hn,aa,hx]
   cases x with
   |true=>rw[if_pos rfl,if_pos rfl,f0]
   |false=>
    simp only[Bool.false_eq_true,if_false]
    by_cases h46:s[n]=46
    ·rw[if_pos h46,if_pos h46,f0]
    ·rw[if_neg h46,if_neg h46]
     by_cases hq:s[n]=39∨s[n]=34
     ·rw[if_pos hq,if_pos hq,f0]
     ·rw[if_neg hq,if_neg hq,AY,Ls hs (by omega),aa]
      cases oM s n with
      |ok q=>exact sJ _ _ _ _ _ _ _
      |error e=>exact sJ _ _ _ _ _ _ _
  cases hdig:ay s[n]with
  |true=>
   rw[cond_true]
   have:=hfin (x:=true) (a:=0) (b:=0) (c:=0) (d:=0) (t:=[]) (by rw[hdig];rfl)
   rw[hdig]at this
   exact this
  |false=>
   rw[cond_false]
   by_cases h46:s[n]=46
   ·have h1:decide (s[n]=46)=true:=by simp[h46]
    rw[h1,cond_true,bV (by omega)]
    by_cases h2:n+1<s.length
    ·rw[dg h2,cond_true,bH h2,aa,rG]
     simp only[ad,ao,aa,aj,am,ah,ae,ak,aw,cond_true,cond_false,Bool.not_true,Bool.not_false,ar,au,aq]
     have hg:(s[n+1]?).getD 0=s[n+1]:=by rw[List.getElem?_eq_getElem h2];rfl
     have:=hfin (x:=ay s[n+1]) (a:=0) (b:=0) (c:=0) (d:=0) (t:=[]) (by rw[hdig,h1,hg];rfl)
     rw[hdig,h1]at this
     exact this
    ·have hg:ay ((s[n+1]?).getD 0)=false:=by rw[List.getElem?_eq_none (by omega)];rfl
     rw[dN (by omega),cond_false]
     have:=hfin (x:=false) (a:=0) (b:=0) (c:=0) (d:=0) (t:=[]) (by rw[hdig,h1,hg];rfl)
     rw[hdig,h1]at this
     exact this
   ·have h1:decide (s[n]=46)=false:=by simp[h46]
    rw[h1,cond_false]
    have:=hfin (x:=false) (a:=0) (b:=0) (c:=0) (d:=0) (t:=[]) (by rw[hdig,h1];rfl)
    rw[hdig,h1]at this
    exact this
end
end Go.Abs
set_option linter.unusedVariables false
set_option linter.unusedSimpArgs false
set_option maxRecDepth 100000
namespace Go.Abs
open Go Go.Proofs
def uX:Except Int (Tok×Nat×List Nat)→Except Int (Tok×Nat)
 | .ok q=> .ok (q.1,q.2.1)
 | .error e=> .error e
section
variable {s:List UInt8}{n:Nat}
theorem z6 (q:Except Int (Tok×Nat)):uX (noK q)=q:=by cases q<;>rfl
theorem yY:uX (dA s n)=dP s n:=by
 unfold dA
 cases dP s n<;>rfl
theorem rZ: ∀w∈dn,w≠eK∧w≠d5:=by decide
theorem jX {w:List UInt8}(hw:w∈bX)(hb:bp s n w=true):w=c8 false s n:=((fR (im w hw) hb).2.1).symm
theorem xh {l:List (List UInt8)}{p:List UInt8→Bool}{w:List UInt8}(hm:w∈l)(hp:p w=true)(hu: ∀x∈l,p x=true→x=w):l.find? p=some w:=by
 cases hf:l.find? p with
 |none=>
  rw[List.find?_eq_none]at hf
  exact absurd hp (hf w hm)
 |some x=>
  have h1:=List.find?_some hf
  have h2:=List.mem_of_find?_eq_some hf
  rw[hu x h2 h1]
theorem qJ {l:List (List UInt8)}{p:List UInt8→Bool}(h: ∀x∈l,p x=false):l.find? p=none:=by
 rw[List.find?_eq_none]
 intro x hx
 rw[h x hx]
 simp
theorem qv {w:List UInt8}(h:w∈dn):w∈bX:=by rw[ie];exact List.mem_append_left _ h
theorem wv {w:List UInt8}(h:w∈([eK,d5]:List (List UInt8))):w∈bX:=by rw[ie];exact List.mem_append_right _ h
theorem NW (h:atC false s n=46):rz s n=if(ck false s n).2.2 then .ok (dF (ck false s n).1,(ck false s n).2.1)else .error 7:=by
 have e:ck false s n=(c8 false s n,dotEnd false s n,k9 false s n):=by unfold ck;rw[if_pos h]
 have hany:=Hp h
 rw[e]at hany ⊢
 simp only at hany ⊢
 unfold rz xN
 cases hok:k9 false s n with
 |false=>
  rw[hok]at hany
  have hno: ∀w∈bX,bp s n w=false:=by
   intro w hw
   cases hb:bp s n w with
   |false=>rfl
   |true=>
    have:bX.any (bp s n)=true:=List.any_eq_true.2 ⟨w,hw,hb⟩
    rw[hany]at this;cases this
  rw[qJ (fun x hx=>hno x (qv hx)),qJ (fun x hx=>hno x (wv hx))]
  rfl
 |true=>
  rw[hok]at hany
  rw[List.any_eq_true]at hany
  obtain⟨w,hw,hb⟩:=hany
  have hT:=jX hw hb
  have hE:=(fR (im w hw) hb).2.2.2
  rw[←hT,hE]
  rw[ie,List.mem_append]at hw
  simp only[if_true]
  rcases hw with hw|hw
  ·rw[xh hw hb (fun x hx hp=>by rw[jX (qv hx) hp,←hT])]
   have:=rZ w hw
   unfold dF
   rw[if_neg (by intro hh;rcases hh with hh|hh;exact this.1 hh;exact this.2 hh)]
  ·rw[qJ (fun x hx=> ?_),xh hw hb (fun x hx hp=>by rw[jX (wv hx) hp,←hT])]
   ·unfold dF
    rw[if_pos (by simpa using hw)]
   ·cases hbx:bp s n x with
    |false=>rfl
    |true=>
     have h1:=jX (qv hx) hbx
     rw[←hT]at h1
     have:=rZ x hx
     rw[h1]at this
     simp only[List.mem_cons,List.not_mem_nil,or_false]at hw
     rcases hw with hw|hw
     ·exact absurd hw this.1
     ·exact absurd hw this.2
theorem A7 {c:UInt8}(h:bI c=true):c.toNat<128:=by
 unfold bI at h
 simp only[Bool.or_eq_true,decide_eq_true_eq]at h
 rcases h with(h|h)|h
 ·exact j4 h
 ·have:=bN.1 h;omega
 ·omega
theorem N6:up (cl false bI s n)=((s.drop n).takeWhile bI).map upB:=by
 rw[gA zj]
 exact mc _ fun b hb=>A7 (fS _ b hb)
def beg (c:UInt8)(d:Option UInt8):List UInt8→Bool
 |[x]=>decide (c=x)
 |[x,y]=>decide (c=x)&&decide (d=some y)
 |_=>false
theorem zV: ∀i:Fin 256,bg (UInt8.ofNat i.val)=false→upB (UInt8.ofNat i.val)=UInt8.ofNat i.val:=by decide
theorem At {c:UInt8}(h:bg c=false):upB c=c:=by
 have:=zV ⟨c.toNat,c.toNat_lt⟩
 simpa[h]using this
theorem zt: ∀i:Fin 256,∀y∈([61,42,47,62]:List UInt8),(upB (UInt8.ofNat i.val)=y↔UInt8.ofNat i.val=y):=by decide
theorem Lt {c y:UInt8}(hy:y∈([61,42,47,62]:List UInt8)):upB c=y↔c=y:=by
 have:=zt ⟨c.toNat,c.toNat_lt⟩ y hy
 simpa using this
theorem MH {c x:UInt8}(h:s[n]? =some c)(hl:bg c=false):bp s n [x]=beg c s[n+1]? [x]:=by
 have hn:=fE h
 rw[List.getElem?_eq_getElem hn]at h
 injection h with h
 unfold bp beg
 rw[List.drop_eq_getElem_cons hn,h]
 simp only[List.length_singleton,List.take_succ_cons,List.take_zero,List.map_cons,List.map_nil,At hl]
 have:decide (n+1≤s.length)=true:=by simp;omega
 rw[this,Bool.true_and]
 simp
theorem Nb {c x y:UInt8}(h:s[n]? =some c)(hl:bg c=false)(hy:y∈([61,42,47,62]:List UInt8)):bp s n [x,y]=beg c s[n+1]? [x,y]:=by
 have hn:=fE h
 rw[List.getElem?_eq_getElem hn]at h
 injection h with h
 unfold bp beg
 simp only[List.length_cons,List.length_nil]
 by_cases h2:n+1<s.length
 ·have:decide (n+(0+1+1)≤s.length)=true:=by simp;omega
  rw[this,Bool.true_and,List.drop_eq_getElem_cons hn,List.drop_eq_getElem_cons h2,List.getElem?_eq_getElem h2,h]
  simp only[List.take_succ_cons,List.take_zero,List.map_cons,List.map_nil,At hl]
  have:=Lt (c:=s[n+1]) hy
  by_cases h3:s[n+1]=y
  ·rw[this.2 h3,h3];simp
  ·have h4:upB s[n+1]≠y:=fun hh=>h3 (this.1 hh)
   simp[h3,h4]
 ·have:decide (n+(0+1+1)≤s.length)=false:=by simp;omega
  rw[this,List.getElem?_eq_none (by omega)]
  simp
def qK:List (List UInt8×List UInt8):=kT++kY bW
theorem Jp (l m:List (List UInt8×List UInt8)): ∀r,eA s n (l++m) r=eA s n m (eA s n l r):=by
 induction l with
 |nil=>intro r;rfl
 |cons x l ih=>intro r;rw[List.cons_append,eA,eA,ih]
def rJ (c:UInt8)(d:Option UInt8)(n:Nat):List (List UInt8×List UInt8)→Except Int (Tok×Nat)→Except Int (Tok×Nat)
 |[],r=>r
 |x::l,r=>rJ c d n l (if beg c d x.1=true∧toE r<n+x.1.length then .ok (⟨2,0,x.2⟩,n+x.1.length)else r)
def Ct (x:List UInt8):Bool:=match x with|[_]=>true|[_,y]=>([61,42,47,62]:List UInt8).contains y|_=>false
theorem zY {c:UInt8}(h:s[n]? =some c)(hl:bg c=false): ∀(l:List (List UInt8×List UInt8)) (r:Except Int (Tok×Nat)),(∀x∈l,Ct x.1=true)→eA s n l r=rJ c s[n+1]? n l r
 |[],r,_=>rfl
 |x::l,r,hs=>by
  have hx:=hs x List.mem_cons_self
  have hb:bp s n x.1=beg c s[n+1]? x.1:=by
   obtain⟨x1,x2⟩:=x
   simp only at hx ⊢
   match x1,hx with
   |[a],_=>exact MH h hl
   |[a,y],hy=>exact Nb h hl (List.contains_iff_mem.1 hy)
  rw[eA,rJ,hb,zY h hl l _ (fun y hy=>hs y (List.mem_cons_of_mem _ hy))]
theorem yP: ∀x∈qK,Ct x.1=true:=by decide
def opC (c:UInt8)(d:Option UInt8)(n:Nat):Except Int (Tok×Nat):=
 match eY [c,d.getD 0]with
 |some w=> .ok (⟨2,0,w⟩,n+2)
 |none=>if d.getD 0≠0∧bW.contains [c,d.getD 0]then .ok (⟨2,0,[c,d.getD 0]⟩,n+2)
  else match eY [c]with
   |some w=> .ok (⟨2,0,w⟩,n+1)
   |none=>if bW.contains [c]then .ok (⟨2,0,[c]⟩,n+1)else .error 7
theorem IH {a b:UInt8}{w:List UInt8}(h:eY [a,b]=some w):b=61:=by
 unfold eY at h
 simp only[List.cons.injEq,and_true]at h
 split at h
 ·rename_i h1;exact h1.2
 ·split at h
  ·rename_i h1;exact h1.2
  ·split at h
   ·rename_i h1;exact h1.2
   ·split at h
    ·rename_i h1;exact h1.2
    ·simp at h
theorem Ol {c:UInt8}(h:s[n]? =some c)(hc:c≠32):ez false s n=opC c s[n+1]? n:=by
 obtain⟨ha,hb⟩:=nR (fx:=false) h hc
 unfold ez opC
 simp only[ha,hb,cg,dp]
 by_cases h2:n+1<s.length
 ·rw[if_pos h2]
  cases eY [c,(s[n+1]?).getD 0]with
  |some w=>rfl
  |none=>rfl
 ·rw[if_neg h2,List.getElem?_eq_none (by omega)]
  cases hsp:eY [c,(none:Option UInt8).getD 0]with
  |some w=>exact absurd (IH hsp) (by decide)
  |none=>
   simp only[Option.getD_none,ne_eq,not_true_eq_false,false_and,if_false]
   cases eY [c]with
   |some w=>rfl
   |none=>rfl
theorem Nd (c:UInt8)(d:Option UInt8)(n:Nat):rJ c d n qK (.error 7)=opC c d n:=by
 have hd:d=none∨d=some 61∨d=some 42∨d=some 47∨d=some 62∨ ∃x,d=some x∧x≠61∧x≠42∧x≠47∧x≠62:=by
  cases d with
  |none=>exact Or.inl rfl
  |some x=>
   by_cases h1:x=61
   ·exact Or.inr (Or.inl (by rw[h1]))
   ·by_cases h2:x=42
    ·exact Or.inr (Or.inr (Or.inl (by rw[h2])))
    ·by_cases h3:x=47
     ·exact Or.inr (Or.inr (Or.inr (Or.inl (by rw[h3]))))
     ·by_cases h4:x=62
      ·exact Or.inr (Or.inr (Or.inr (Or.inr (Or.inl (by rw[h4])))))
      ·exact Or.inr (Or.inr (Or.inr (Or.inr (Or.inr ⟨x,rfl,h1,h2,h3,h4⟩))))
 have hL: ∀(x:UInt8),x∈([60,62,61,47,42,43,45,40,41,44,58,37]:List UInt8)∨x ∉([60,62,61,47,42,43,45,40,41,44,58,37]:List UInt8):=fun x=>Classical.em _
 rcases hL c with hm|hm
 ·simp only[List.mem_cons,List.not_mem_nil,or_false]at hm
  rcases hm with rfl|rfl|rfl|rfl|rfl|rfl|rfl|rfl|rfl|rfl|rfl|rfl<;>rcases hd with rfl|rfl|rfl|rfl|rfl|⟨x,rfl,h1,h2,h3,h4⟩<;>
   simp[rJ,qK,kT,kY,bW,beg,toE,opC,eY, *]
 ·simp only[List.mem_cons,List.not_mem_nil,or_false,not_or]at hm
  obtain⟨n1,n2,n3,n4,n5,n6,n7,n8,n9,n10,n11,n12⟩:=hm
  simp[rJ,qK,kT,kY,bW,beg,toE,opC,eY,n1,n2,n3,n4,n5,n6,n7,n8,n9,n10,n11,n12]
theorem NG {c:UInt8}(h:s[n]? =some c)(hc:c≠32)(hl:bg c=false):oM s n=ez false s n:=by
 have e:oM s n=eA s n qK (.error 7):=(Jp kT (kY bW) _).symm
 rw[e,zY h hl _ _ yP,Nd,Ol h hc]
theorem MJ {c:UInt8}(h:s[n]? =some c)(hc:c≠32):xS s n c=uX (dO false s n c):=by
 obtain⟨ha,hb⟩:=nR (fx:=false) h hc
 unfold xS dO
 by_cases hl:bg c=true
 ·rw[if_pos hl,if_pos hl,N6,gA zj,gl zj]
  split<;>rfl
 ·rw[if_neg hl,if_neg hl]
  have hl':bg c=false:=by simpa using hl
  have e2:atC false s (n+1)=(s[n+1]?).getD 0:=rfl
  rw[e2]
  by_cases hd:(ay c||(decide (c=46)&&ay ((s[n+1]?).getD 0)))=true
  ·rw[if_pos hd,if_pos hd,z6]
   refine oq h ?_
   rw[Bool.or_eq_true,Bool.and_eq_true,decide_eq_true_eq]at hd
   exact hd
  ·rw[if_neg hd,if_neg hd]
   by_cases h46:c=46
   ·rw[if_pos h46,if_pos h46,NW (by rw[ha,h46])]
    split<;>rfl
   ·rw[if_neg h46,if_neg h46]
    by_cases hq:c=39∨c=34
    ·rw[if_pos hq,if_pos hq,yY]
    ·rw[if_neg hq,if_neg hq,z6,NG h hc hl']
def oz {α:Type}:Except Int α→Prop
 | .ok _=>True
 | .error e=>e=4∨e=7∨e=8∨e=28
theorem zw {q:Except Int (Tok×Nat)}(h:oz q):oz (noK q):=by cases q<;>exact h
theorem Fm:oz (dP s n):=by
 unfold dP
 split
 ·exact Or.inr (Or.inl rfl)
 ·split
  ·exact Or.inr (Or.inr (Or.inl rfl))
  ·trivial
theorem KQ {whole part digits:List UInt8}{letter:UInt8}{ok:Bool}{e:Nat}:oz (e7 whole part digits letter ok e):=by
 unfold e7
 split
 ·exact Or.inr (Or.inl rfl)
 ·trivial
theorem Fu {fx:Bool}:oz (db fx s n):=by
 unfold db
 simp only
 split
 ·unfold cx
  split
  ·exact trivial
  ·rename_i e he
   split at he
   ·injection he with he
    subst he
    exact Or.inr (Or.inr (Or.inr rfl))
   ·cases he
 ·exact KQ
theorem N9 {fx:Bool}:oz (ez fx s n):=by
 unfold ez
 simp only
 split
 ·trivial
 ·split
  ·trivial
  ·split
   ·trivial
   ·split
    ·trivial
    ·exact Or.inr (Or.inl rfl)
theorem xf {fx:Bool}{out:List Tok}:oz (d6 fx s out n):=by
 unfold d6
 split
 ·unfold m3
  split
  ·exact Or.inr (Or.inl rfl)
  ·trivial
 ·unfold dO
  split
  ·split
   ·exact Or.inl rfl
   ·trivial
  ·split
   ·exact zw Fu
   ·split
    ·split
     ·trivial
     ·exact Or.inr (Or.inl rfl)
    ·split
     ·have:=Fm (s:=s) (n:=n)
      unfold dA
      cases hq:dP s n with
      |ok q=>trivial
      |error e=>rw[hq]at this;exact this
     ·exact zw N9
end
end Go.Abs
set_option linter.unusedVariables false
set_option maxRecDepth 100000
namespace Go.Abs
open Go Go.Proofs
theorem CG (E:Env): ∀n,LimR (evn E) (evn E n)
 |0=>⟨fun f args μ r h=>(by simp[evn]at h),fun H lv c s μ r h=>(by simp[evn]at h),fun H lv c s μ r h=>(by simp[evn]at h),fun f pv args μ r h=>(by simp[evn]at h)⟩
 |n+1=>by
  have ih:=CG E n
  refine⟨fun f args μ r h=> ?_,fun H lv c s μ r h=> ?_,fun H lv c s μ r h=> ?_,fun f pv args μ r h=> ?_⟩
  ·obtain⟨N,hN⟩:=qZ ih (E:=E) (f:=f) (args:=args) (μ:=μ) r h
   refine⟨N+1,fun m hm=> ?_⟩
   obtain⟨q,rfl⟩: ∃q,m=q+1:=⟨m-1,by omega⟩
   exact hN q (by omega)
  ·obtain⟨N,hN⟩:=uL ih (P:=E.P) (H:=H) (lv:=lv) (c:=c) (s:=s) (μ:=μ) r h
   refine⟨N+1,fun m hm=> ?_⟩
   obtain⟨q,rfl⟩: ∃q,m=q+1:=⟨m-1,by omega⟩
   exact hN q (by omega)
  ·obtain⟨N,hN⟩:=zd ih (P:=E.P) (H:=H) (lv:=lv) (c:=c) (s:=s) (μ:=μ) r h
   refine⟨N+1,fun m hm=> ?_⟩
   obtain⟨q,rfl⟩: ∃q,m=q+1:=⟨m-1,by omega⟩
   exact hN q (by omega)
  ·obtain⟨N,hN⟩:=pE ih (E:=E) (f:=f) (pv:=pv) (args:=args) (μ:=μ) r h
   refine⟨N+1,fun m hm=> ?_⟩
   obtain⟨q,rfl⟩: ∃q,m=q+1:=⟨m-1,by omega⟩
   exact hN q (by omega)
theorem O9 {E:Env}{n:Nat}{f:FuncId}{args:List LV}{μ:Mu}{out:Out}(h:(evn E n).call f args μ=some out):(ev E).call f args μ=some out:=
 mf ((CG E n).call f args μ out h)
theorem Iy:(evn E 150).call 11 [] []=some (.ret (LV.bool true) []):=by kernel_rfl
theorem P6:(ev E).call 11 [] []=some (.ret (LV.bool true) []):=O9 Iy
end Go.Abs
set_option linter.unusedVariables false
set_option linter.unusedSimpArgs false
set_option maxRecDepth 100000
namespace Go.Abs
open Go Go.Proofs
section
variable {μ:Mu}{s:List UInt8}
theorem oN {out:List Tok}{n:Nat}:d6 false s out n=dO false s n ((s[n]?).getD 0):=by
 unfold d6 tT
 rfl
noncomputable def GB (μ:Mu):Option (Nat×Int)×List Tok×List Nat→St
 |(none,out,_)=>sR (aQ out) μ
 |(some (n,e),_,_)=>sV [] (n:Int) e μ
theorem OR (hs:s.length≤200000){out:List Tok}{st:St}: ∀(k n:Nat),ba (s.drop n)=k→n≤s.length→rr (ev E) s (aQ out) ((n+k:Nat):Int) μ=some st→rr (ev E) s (aQ out) (n:Int) μ=some st:=by
 have e32: ∀c:UInt8,decide ((c.toNat:Int)=32)=decide (c=32):=fun c=>bG (k:=32) (by omega)
 intro k
 induction k with
 |zero=>intro n hb hn h;exact h
 |succ k ih=>
  intro n hb hn h
  have hlt:n<s.length:=by
   rcases Nat.lt_or_ge n s.length with h1|h1
   ·exact h1
   ·rw[List.drop_eq_nil_of_le h1]at hb;simp[ba]at hb
  rw[List.drop_eq_getElem_cons hlt,ba]at hb
  by_cases hc:s[n]=32
  ·rw[if_pos hc]at hb
   refine bb ?_
   have:decide (s[n]=32)=true:=by simp[hc]
   rw[wb,dg hlt,cond_true,bH hlt,aa,e32,this,cond_true,bV (by omega)]
   refine ih (n+1) (by omega) hlt ?_
   have:n+1+k=n+(k+1):=by omega
   rw[this]
   exact h
  ·rw[if_neg hc]at hb;cases hb
theorem Ok (hs:s.length≤200000): ∀(k n:Nat) (out:List Tok) (kept:List Nat),s.length<n+k→n≤s.length→out.length≤n→
  rr (ev E) s (aQ out) (n:Int) μ=some (GB μ (cD false s k n out kept)):=by
 have e32: ∀c:UInt8,decide ((c.toNat:Int)=32)=decide (c=32):=fun c=>bG (k:=32) (by omega)
 intro k
 induction k with
 |zero=>intro n out kept hk hn ho;omega
 |succ k ih=>
  intro n out kept hk hn ho
  have hb:=mY (s.drop n)
  rw[List.length_drop]at hb
  refine OR hs _ n rfl hn ?_
  unfold cD
  by_cases hm:s.length≤n+ba (s.drop n)
  ·rw[if_pos hm]
   refine bb ?_
   rw[wb,dN hm,cond_false]
   rfl
  ·rw[if_neg hm]
   have hlt:n+ba (s.drop n)<s.length:=by omega
   obtain⟨c,hc1,hc2⟩:=ui hlt
   obtain⟨m,hmd⟩: ∃m,m=n+ba (s.drop n):=⟨_,rfl⟩
   rw[←hmd]at hlt hc1 ⊢
   have hg:s[m]=c:=by rw[List.getElem?_eq_getElem hlt]at hc1;simpa using hc1
   have hf:=uA (fx:=false) (out:=out) hc1 hc2
   have he:=xf (s:=s) (n:=m) (fx:=false) (out:=out)
   have hT:d6 false s out m=dO false s m c:=by rw[oN,hc1];rfl
   have hN:=MJ hc1 hc2
   rw[←hT]at hN
   refine bb ?_
   have h32:decide (c=32)=false:=by simp[hc2]
   rw[wb,dg hlt,cond_true,bH hlt,aa,e32,hg,h32,cond_false]
   cases ht:d6 false s out m with
   |error e=>
    rw[ht]at he hN
    have hG:F7 (ev E) s (aQ out) (m:Int) μ=some (tK [] (m:Int) e μ):=by
     refine aO ?_
     rw[Db,Mt hs hlt,hg,hN,ad,mN]
     simp only[uX,stB]
     have:decide (e=0)=false:=by
      simp only[decide_eq_false_iff_not]
      rcases he with h|h|h|h<;>rw[h]<;>decide
     rw[this]
     rfl
    rw[hG,aa,EG]
    rfl
   |ok q=>
    rw[ht]at hf hN
    obtain⟨f1,f2,f3⟩:=hf
    have ha:[CV.agg [CV.int .i64 q.1.kind,CV.int .i64 q.1.type,CV.str q.1.text]]=aQ [q.1]:=rfl
    have happ:aQ out++aQ [q.1]=aQ (out++[q.1]):=by simp[aQ]
    have hG:F7 (ev E) s (aQ out) (m:Int) μ=some (sT s (aQ (out++[q.1])) (q.2.1:Int) μ):=by
     refine aO ?_
     have hG12:Jj (ev E) s (aQ out) q.1.kind q.1.type q.1.text (q.2.1:Int) 0 μ=some (ro s (aQ (out++[q.1])) (q.2.1:Int) μ):=by
      refine aO ?_
      rw[K0,ha,vp (by simp;omega),aw,happ]
     rw[Db,Mt hs hlt,hg,hN,ad,mN]
     simp only[uX,stB]
     rw[decide_true,Bool.not_true,cond_false,hG12,aa,AR]
    rw[hG,aa,EF]
    exact ih q.2.1 _ _ (by omega) f2 (by simp;omega)
theorem xi {fx:Bool}: ∀(k n:Nat) (out:List Tok) (kept:List Nat) (m:Nat) (e:Int),(cD fx s k n out kept).1=some (m,e)→e≠0
 |0,n,out,kept,m,e,h=>by simp[cD]at h
 |k+1,n,out,kept,m,e,h=>by
  unfold cD at h
  split at h
  ·cases h
  ·have he:=xf (s:=s) (n:=n+ba (s.drop n)) (fx:=fx) (out:=out)
   cases ht:d6 fx s out (n+ba (s.drop n))with
   |error x=>
    rw[ht]at h he
    simp only[Option.some.injEq,Prod.mk.injEq]at h
    obtain⟨_,rfl⟩:=h
    rcases he with h|h|h|h<;>rw[h]<;>decide
   |ok q=>
    rw[ht]at h
    exact xi k _ _ _ m e h
theorem Px (hs:s.length≤200000):(ev E).call 18 [LV.str s] μ=some (.ret (.ltup [if bC s=0 then LV.cv (CV.sl (aQ (ey false s)))else EA,LV.int .i64 ((bD false s).n:Int),LV.int .i64 (bD false s).e]) μ):=by
 refine aK ?_
 rw[QC,Ma hs]
 simp only[ad,ao,aa,aj,am,ah,ae,ak,aw,cond_true,cond_false,Bool.not_true,Bool.not_false,ar,au,aq]
 by_cases ht:bC s=0
 ·have h1:decide (bC s=0)=true:=by simp[ht]
  rw[h1,Bool.not_true,cond_false,if_pos ht]
  have hl:=Ok (μ:=μ) hs (s.length+1) 0 [] [] (by omega) (by omega) (by simp)
  have e0:((0:Nat):Int)=0:=rfl
  have et:aQ []=[]:=rfl
  rw[e0,et]at hl
  have hne:=xi (s:=s) (fx:=false) (s.length+1) 0 [] []
  obtain⟨r,hr⟩: ∃r,cD false s (s.length+1) 0 [] []=r:=⟨_,rfl⟩
  rw[hr]at hl hne
  have hsc:bD false s=if(bU r.1).2=0 then(if 300<r.2.1.length then⟨r.2.1,r.2.2,0,8⟩else⟨r.2.1,r.2.2,r.2.1.length,0⟩)else⟨r.2.1,r.2.2,(bU r.1).1,(bU r.1).2⟩:=by
   unfold bD;rw[if_pos ht,hr]
  have hG:L9 (ev E) s μ=some (lK (aQ (ey false s)) ((bD false s).n:Int) (bD false s).e μ):=by
   refine aO ?_
   rw[Nv,hl,aa]
   unfold ey
   rw[hsc]
   obtain⟨x,o,q⟩:=r
   have hlen:(aQ o).length=o.length:=by simp[aQ]
   cases x with
   |none=>
    have hz:(bU (none:Option (Nat×Int))).2=0:=rfl
    rw[if_pos hz]
    simp only[GB]
    rw[FQ,hlen]
    by_cases h3:300<o.length
    ·have:decide ((300:Int)<(o.length:Int))=true:=by simp;omega
     rw[this,cond_true,if_pos h3]
     rfl
    ·have:decide ((300:Int)<(o.length:Int))=false:=by simp;omega
     rw[this,cond_false,if_neg h3]
     rfl
   |some w=>
    obtain⟨m,e⟩:=w
    have he:=hne m e rfl
    have hz: ¬(bU (some (m,e))).2=0:=he
    rw[if_neg hz]
    simp only[GB]
    rw[EQ]
    have hz2:(if(bU (some (m,e))).2=0 then o else [])=[]:=if_neg hz
    simp only[hz2]
    rfl
  rw[hG,aa,FV]
 ·have h1:decide (bC s=0)=false:=by simp[ht]
  have hsc:bD false s=⟨[],[],0,bC s⟩:=by unfold bD;rw[if_neg ht]
  rw[h1,Bool.not_false,cond_true,if_neg ht,hsc]
  rfl
end
end Go.Abs
set_option linter.unusedVariables false
set_option linter.unusedSimpArgs false
set_option maxRecDepth 100000
namespace Go.Abs
open Go Go.Proofs
section
variable {μ:Mu}{s:List UInt8}
theorem Oh {c:UInt8}:(ev E).call 114 [LV.int .u8 (c.toNat:Int)] μ=some (.ret (LV.bool (ay c)) μ):=by
 refine aK ?_
 have hc:=UInt8.toNat_lt c
 rw[Qc,bc (by omega) (by omega),o6]
 simp only[ad,ao,aa,aj,am,ah,ae,ak,aw,cond_true,cond_false,Bool.not_true,Bool.not_false,ar,au,aq]
 have h1:decide ((48:Int)≤(c.toNat:Int))=decide (48≤c.toNat):=by simp;omega
 have h2:decide ((c.toNat:Int)≤(57:Int))=decide (c.toNat≤57):=by simp;omega
 rw[h1,h2]
 rfl
def eI (p:UInt8→Bool)(s:List UInt8):Bool:=match s with|[]=>false|c::_=>p c
theorem vE {p:UInt8→Bool}: ∀(l:List UInt8),(!l.any fun b=> !p b)=l.all p
 |[]=>rfl
 |c::r=>by rw[List.any_cons,List.all_cons,Bool.not_or,vE r,Bool.not_not]
def uS (b:UInt8):Bool:=decide (b.toNat<48)||decide (57<b.toNat)
theorem wD:uS=fun b=> !ay b:=by
 funext b
 unfold uS ay
 rw[Bool.not_and]
 congr 1
 ·by_cases h:48≤b.toNat
  ·rw[decide_eq_true h,decide_eq_false (by omega)];rfl
  ·rw[decide_eq_false h,decide_eq_true (by omega)];rfl
 ·by_cases h:b.toNat≤57
  ·rw[decide_eq_true h,decide_eq_false (by omega)];rfl
  ·rw[decide_eq_false h,decide_eq_true (by omega)];rfl
def iW (t:List UInt8):Bool:=decide (t.length≤10)&&t.all ay&&eI (fun c=> !decide (c=48)||decide (t=[48])) t
def bm (k:Int)(t:List UInt8):Int:=
 if k=0 then(if iW t then(if 2147483647<valD 0 t then 28 else 0)else 3)
 else if k=1∨k=2∨k=5∨k=6 then(if eR t=some ⟨1,k,t⟩then 0 else 3)else 15
theorem oX {k:Int}(hs:s.length≤200000){b:Bool}(hb:b=decide (k=1∨k=2∨k=5∨k=6))(hk:k≠0):
  (opt (lV (ev E) k s b μ) (kB (ev E) 12 H12 [.block 0,.seq (cA 12 [1,1])]))=some (.ret (LV.int .i64 (bm k s)) μ):=by
 subst hb
 by_cases h:k=1∨k=2∨k=5∨k=6
 ·have:lV (ev E) k s (decide (k=1∨k=2∨k=5∨k=6)) μ=some (gt (bm k s) μ):=by
   refine aO ?_
   rw[zM,decide_eq_true h,cond_true,PA hs]
   unfold bm
   rw[if_neg hk,if_pos h]
   simp only[ad,ao,aa,aj,am,ah,ae,ak,aw,cond_true,cond_false,Bool.not_true,Bool.not_false,ar,au,aq]
   cases hq:eR s with
   |none=>rfl
   |some t=>
    simp only[O1,ad,ao,aa,aj,am,ah,ae,ak,aw,cond_true,cond_false,Bool.not_true,Bool.not_false,ar,au,aq,dG]
    obtain⟨a,b,c⟩:=t
    simp only
    by_cases h1:a=1
    ·by_cases h2:b=k
     ·by_cases h3:c=s
      ·subst h1;subst h2;subst h3
       simp
      ·have: ¬(some (Tok.mk a b c)=some (Tok.mk 1 k s)):=fun e=>h3 (by injection e with e;injection e)
       rw[if_neg this,decide_eq_true h1,decide_eq_true h2,decide_eq_false h3];rfl
     ·have: ¬(some (Tok.mk a b c)=some (Tok.mk 1 k s)):=fun e=>h2 (by injection e with e;injection e)
      rw[if_neg this,decide_eq_true h1,decide_eq_false h2];rfl
    ·have: ¬(some (Tok.mk a b c)=some (Tok.mk 1 k s)):=fun e=>h1 (by injection e with e;injection e)
     rw[if_neg this,decide_eq_false h1];rfl
  rw[this,aa,A9]
 ·have:lV (ev E) k s (decide (k=1∨k=2∨k=5∨k=6)) μ=some (qY μ):=by
   refine aO ?_
   rw[zM,decide_eq_false h,cond_false]
  rw[this,aa,Bi]
  unfold bm
  rw[if_neg hk,if_neg h]
theorem QI {t:List UInt8}(h1:t.length≤10)(h2:t.all ay=true)(h3:t≠[]):cw t=(valD 0 t:Nat):=by
 unfold cw
 rw[f7 (fun b hb=>List.all_eq_true.1 h2 b hb) h3 h1]
theorem NF {t:List UInt8}(h1:t.length≤10)(h2:t.all ay=true)(h3:t≠[]):
  (opt (xM (ev E) t μ) (kB (ev E) 12 H12 [.block 0,.seq (cA 12 [1,1])]))=some (.ret (LV.int .i64 (if 2147483647<valD 0 t then 28 else 0)) μ):=by
 have:xM (ev E) t μ=some (pr (if 2147483647<valD 0 t then 28 else 0) μ):=by
  refine aO ?_
  rw[M4,t7 (by omega),lM,QI h1 h2 h3]
  simp only[ad,ao,aa,aj,am,ah,ae,ak,aw,cond_true,cond_false,Bool.not_true,Bool.not_false,ar,au,aq,iQ]
  by_cases h:2147483647<valD 0 t
  ·rw[if_pos h,show decide ((2147483647:Int)<((valD 0 t:Nat):Int))=true by simp;omega];rfl
  ·rw[if_neg h,show decide ((2147483647:Int)<((valD 0 t:Nat):Int))=false by simp;omega];rfl
 rw[this,aa,E8]
theorem P1 {k:Int}(hs:s.length≤200000):(ev E).call 12 [LV.int .i64 k,LV.str s] μ=some (.ret (LV.int .i64 (bm k s)) μ):=by
 refine aK ?_
 rw[QJ]
 by_cases h0:k=0
 ·subst h0
  rw[decide_eq_true rfl,cond_true]
  unfold bm iW
  rw[if_pos rfl]
  cases s with
  |nil=>rfl
  |cons c r=>
   have e0:decide (c::r=[])=false:=by simp
   have e1:aX (c::r) 0=some c:=rfl
   have e2:decide ((10:Int)<((c::r).length:Int))= !decide ((c::r).length≤10):=by
    by_cases h:(c::r).length≤10
    ·rw[decide_eq_true h];exact decide_eq_false (by omega)
    ·rw[decide_eq_false h];exact decide_eq_true (by omega)
   have e3:decide ((c.toNat:Int)=48)=decide (c=48):=bG (k:=48) (by omega)
   rw[e0,cond_false,e1,e2,Fe (g:=44) (p:=uS) rfl,wD]
   simp only[ad,ao,aa,aj,am,ah,ae,ak,aw,cond_true,cond_false,Bool.not_true,Bool.not_false,ar,au,aq]
   rw[e3]
   have e4:((c::r).any fun b=> !ay b)= !(c::r).all ay:=by rw[←vE (p:=ay),Bool.not_not]
   rw[e4]
   show _=some (Out.ret (LV.int .i64 (if(decide ((c::r).length≤10)&&(c::r).all ay&&(!decide (c=48)||decide (c::r=[48])))=true then(if 2147483647<valD 0 (c::r)then 28 else 0)else 3)) μ)
   by_cases h1:(c::r).length≤10
   ·cases h2:(c::r).all ay with
    |false=>rw[decide_eq_true h1];rfl
    |true=>
     rw[NF h1 h2 (by simp),decide_eq_true h1]
     cases decide (c=48)<;>cases decide (c::r=[48])<;>simp
   ·rw[decide_eq_false h1];rfl
 ·rw[decide_eq_false h0,cond_false]
  by_cases h1:k=1
  ·rw[decide_eq_true h1,cond_true]
   exact oX hs (by rw[decide_eq_true (Or.inl h1)]) h0
  ·rw[decide_eq_false h1,cond_false]
   by_cases h2:k=2
   ·rw[decide_eq_true h2,cond_true]
    exact oX hs (by rw[decide_eq_true (Or.inr (Or.inl h2))]) h0
   ·rw[decide_eq_false h2,cond_false]
    by_cases h5:k=5
    ·rw[decide_eq_true h5,cond_true]
     exact oX hs (by rw[decide_eq_true (Or.inr (Or.inr (Or.inl h5)))]) h0
    ·rw[decide_eq_false h5,cond_false]
     exact oX hs (by simp[h1,h2,h5]) h0
end
end Go.Abs
set_option linter.unusedVariables false
set_option linter.unusedSimpArgs false
set_option maxRecDepth 100000
namespace Go.Abs
open Go Go.Proofs
section
variable {μ:Mu}{s:List UInt8}
def uT (k:Int)(t:List UInt8):Int:=if(bD false t).e=0∧ey false t=[⟨1,k,t⟩]then 0 else 3
def n0 (k:Int)(t:List UInt8):Int:=if 122<t.length∨bC t≠0 then 3 else uT k t
theorem Pn {l:List Tok}:cM (if bC s=0 then LV.cv (CV.sl (aQ (ey false s)))else EA)=some (aQ (ey false s)):=by
 by_cases ht:bC s=0
 ·rw[if_pos ht];rfl
 ·rw[if_neg ht]
  have hsc:bD false s=⟨[],[],0,bC s⟩:=by unfold bD;rw[if_neg ht]
  have:ey false s=[]:=by unfold ey;rw[hsc];exact if_neg ht
  rw[this];rfl
theorem Nf {t:Tok}{k:Int}{s:List UInt8}:(decide (t.kind=1)&&(decide (t.type=k)&&(decide (t.text=s)&&true)))=decide (t=⟨1,k,s⟩):=by
 obtain⟨a,b,c⟩:=t
 exact Ot ⟨a,b,c⟩ ⟨1,k,s⟩
theorem MU {k:Int}(hs:s.length≤200000):Mj (ev E) k s μ=some (jR (uT k s) μ):=by
 refine aO ?_
 rw[MI,Px hs]
 simp only[ad,ao,aa,aj,am,ah,ae,ak,aw,cond_true,cond_false,Bool.not_true,Bool.not_false,ar,au,aq]
 rw[Pn (l:=[]),aa]
 unfold uT
 by_cases he:(bD false s).e=0
 ·rw[decide_eq_true he,Bool.not_true,cond_false]
  have hl:(aQ (ey false s)).length=(ey false s).length:=by simp[aQ]
  rw[hl]
  match h:ey false s with
  |[]=>rw[if_neg (by simp)];rfl
  |[t]=>
   have e1:dZ (aQ [t]) (0:Int)=some t.cv:=rfl
   rw[show decide ((([t]:List Tok).length:Int)=1)=true from rfl,Bool.not_true,cond_false,e1,aa,dG,Nf]
   by_cases ht:t=⟨1,k,s⟩
   ·rw[decide_eq_true ht,if_pos ⟨he,by rw[ht]⟩];rfl
   ·rw[decide_eq_false ht,if_neg (fun e=>ht (by simpa using e.2))];rfl
  |a::b::r=>
   have:decide (((a::b::r).length:Int)=1)=false:=by simp;omega
   rw[this,if_neg (by simp)];rfl
 ·rw[decide_eq_false he,if_neg (fun e=>he e.1)];rfl
theorem NP {k:Int}(hs:s.length≤200000):rV (ev E) k s μ=some (lL (n0 k s) μ):=by
 refine aO ?_
 rw[Nr,Ma hs]
 simp only[ad,ao,aa,aj,am,ah,ae,ak,aw,cond_true,cond_false,Bool.not_true,Bool.not_false,ar,au,aq]
 rw[MU hs,aa,EU]
 unfold n0
 by_cases h1:122<s.length
 ·rw[if_pos (Or.inl h1),show decide ((122:Int)<(s.length:Int))=true from decide_eq_true (by omega)];rfl
 ·rw[show decide ((122:Int)<(s.length:Int))=false from decide_eq_false (by omega),cond_false]
  by_cases h2:bC s=0
  ·rw[decide_eq_true h2,if_neg (by simp[h1,h2])];rfl
  ·rw[decide_eq_false h2,if_pos (Or.inr h2)];rfl
def tv (t:List UInt8):Bool:=decide (t.length=10)&&(decide (digR t 0=10)&&(eI (fun c=> !decide (c=48)) t&& !(Op.bytesLess t cj||decide (t=cj))))
def xC (k:Int)(t:List UInt8):Int:=
 if !(decide (0≤k)&&decide (k≤6))||(decide (k=3)||decide (k=4))then 15
 else if k=0∧tv t=true then 28 else n0 k t
theorem No {k:Int}(hs:s.length≤200000):L3 (ev E) k s μ=some (lW (if k=0∧tv s=true then 28 else n0 k s) μ):=by
 refine aO ?_
 rw[Nc]
 have h47:=ux (μ:=μ) hs (n:=0) (Nat.zero_le _)
 have e0:((0:Nat):Int)=0:=rfl
 rw[e0]at h47
 rw[h47]
 simp only[ad,ao,aa,aj,am,ah,ae,ak,aw,cond_true,cond_false,Bool.not_true,Bool.not_false,ar,au,aq]
 rw[NP hs,aa,Gj]
 by_cases h0:k=0
 ·rw[decide_eq_true h0,cond_true]
  unfold tv
  by_cases h1:s.length=10
  ·rw[show decide ((s.length:Int)=10)=true from decide_eq_true (by omega),cond_true,decide_eq_true h1]
   by_cases h2:digR s 0=10
   ·rw[show decide ((digR s 0:Int)=10)=true from decide_eq_true (by omega),cond_true,decide_eq_true h2]
    match s,h1 with
    |c::r,h1=>
     have e3:decide ((c.toNat:Int)=48)=decide (c=48):=bG (k:=48) (by omega)
     rw[show aX (c::r) 0=some c from rfl,aa,e3]
     show _=some (lW (if k=0∧(true&&(true&&(!decide (c=48)&& !(Op.bytesLess (c::r) cj||decide (c::r=cj)))))=true then 28 else n0 k (c::r)) μ)
     simp only[h0,true_and,Bool.true_and]
     have e4:([50,49,52,55,52,56,51,54,52,55]:List UInt8)=cj:=rfl
     rw[e4]
     cases decide (c=48)<;>cases (Op.bytesLess (c::r) cj||decide (c::r=cj))<;>rfl
   ·rw[show decide ((digR s 0:Int)=10)=false from decide_eq_false (by omega),cond_false,decide_eq_false h2]
    simp
  ·rw[show decide ((s.length:Int)=10)=false from decide_eq_false (by omega),cond_false,decide_eq_false h1]
   simp
 ·rw[decide_eq_false h0,cond_false,if_neg (by simp[h0])]
theorem j9 {k:Int}(hs:s.length≤200000):(ev E).call 13 [LV.int .i64 k,LV.str s] μ=some (.ret (LV.int .i64 (xC k s)) μ):=by
 refine aK ?_
 rw[Qp,o6]
 simp only[ad,ao,aa,aj,am,ah,ae,ak,aw,cond_true,cond_false,Bool.not_true,Bool.not_false,ar,au,aq]
 rw[No hs,aa,Fv]
 unfold xC
 cases decide (0≤k)<;>cases decide (k≤6)<;>cases decide (k=3)<;>cases decide (k=4)<;>rfl
end
end Go.Abs
set_option linter.unusedVariables false
set_option linter.unusedSimpArgs false
namespace Go.Abs
open Go Go.Proofs
theorem iR {n:Nat}(h:n<10):Lib.decDigits n=[UInt8.ofNat (48+n)]:=Lib.decDigits_one h
theorem rP {n:Nat}(h: ¬n<10):Lib.decDigits n=Lib.decDigits (n / 10)++[UInt8.ofNat (48+n % 10)]:=by
 rw[Lib.decDigits,dif_neg h]
theorem mQ {d:Nat}(h:d<10):ay (UInt8.ofNat (48+d))=true∧(UInt8.ofNat (48+d)).toNat=48+d:=by
 have:(UInt8.ofNat (48+d)).toNat=48+d:=UInt8.toNat_ofNat_of_lt' (by show 48+d<256;omega)
 exact⟨bN.2 (by omega),this⟩
theorem gV: ∀(n:Nat),∀b∈Lib.decDigits n,ay b=true:=by
 intro n
 induction n using Nat.strongRecOn with
 |_ n ih=>
  intro b hb
  by_cases h:n<10
  ·rw[iR h]at hb
   rw[List.mem_singleton.1 hb]
   exact(mQ h).1
  ·rw[rP h]at hb
   rcases List.mem_append.1 hb with h1|h1
   ·exact ih (n / 10) (by omega) b h1
   ·rw[List.mem_singleton.1 h1]
    exact(mQ (by omega)).1
theorem iL: ∀(n:Nat),valD 0 (Lib.decDigits n)=n:=by
 intro n
 induction n using Nat.strongRecOn with
 |_ n ih=>
  by_cases h:n<10
  ·rw[iR h,cY,gE,(mQ h).2];omega
  ·rw[rP h,te,ih (n / 10) (by omega),(mQ (d:=n % 10) (by omega)).2];omega
theorem tl: ∀(n:Nat),jd (Lib.decDigits n):=by
 intro n
 induction n using Nat.strongRecOn with
 |_ n ih=>
  by_cases h:n<10
  ·rw[iR h];exact Or.inl rfl
  ·rw[rP h]
   rcases ih (n / 10) (by omega)with h1|⟨c,r,h1,h2⟩
   ·match h3:Lib.decDigits (n / 10),h1 with
    |[c],_=>
     refine Or.inr ⟨c,_,rfl,fun e=> ?_⟩
     have:=iL (n / 10)
     rw[h3,e]at this
     have h48:valD 0 [(48:UInt8)]=0:=rfl
     omega
   ·rw[h1];exact Or.inr ⟨c,_,rfl,h2⟩
theorem gq: ∀(k n:Nat),1≤k→n<10^k→(Lib.decDigits n).length≤k
 |0,n,h,_=>absurd h (by omega)
 |1,n,_,h=>by rw[iR (by simpa using h)];exact Nat.le_refl _
 |k+2,n,_,h=>by
  by_cases h9:n<10
  ·rw[iR h9];simp
  ·rw[rP h9,List.length_append]
   have:=gq (k+1) (n / 10) (by omega) (by rw[Nat.pow_succ]at h;exact(Nat.div_lt_iff_lt_mul (by omega)).2 h)
   simp only[List.length_cons,List.length_nil]
   omega
def mb (t:Tok):Prop:=t.kind=1→t.text.length≤122∧(t.type=0→ ∃n:Nat,n≤2147483647∧t.text=Lib.decDigits n)∧(t.type=6→ ∃u:List UInt8,u.length≤60∧t.text=fY u)
def po {β:Type}:Except Int (Tok×β)→Prop
 | .ok q=>mb q.1
 | .error _=>True
section
variable {s:List UInt8}{fx:Bool}{n:Nat}
theorem Cw {q:Except Int (Tok×Nat)}(h:po q):po (noK q):=by cases q<;>exact h
theorem uk {t:List UInt8}(h:t.length≤60):mb ⟨1,6,fY t⟩:=by
 intro _
 have:=rC t
 refine⟨?_,fun e=>absurd e (by simp),fun _=>⟨t,h,rfl⟩⟩
 show (fY t).length≤122
 unfold fY
 simp only[List.length_append,List.length_cons,List.length_nil]
 omega
theorem Bd:po (dP s n):=by
 unfold dP
 split
 ·trivial
 ·split
  ·trivial
  ·exact uk (by omega)
theorem JQ {whole part digits:List UInt8}{letter:UInt8}{ok:Bool}{e:Nat}:po (e7 whole part digits letter ok e):=by
 unfold e7
 split
 ·trivial
 ·rename_i hl
  unfold nM at hl
  simp only[Bool.or_eq_true,decide_eq_true_eq,not_or]at hl
  have h1:=eU (br whole)
  have h2:=eU (bn part)
  have h3:(fi digits ok).length≤21:=by
   unfold fi
   split
   ·exact Lib.itoa_length_le _ (ii digits).1 (ii digits).2
   ·simp
  have h4:(eZ whole part).length≤33:=by
   unfold eZ
   simp only[List.length_append,List.length_cons,List.length_nil]
   omega
  unfold dT
  show mb _
  split
  ·exact fun _=>⟨by simp only[List.length_append,List.length_cons,List.length_nil];omega,fun e=>absurd e (by simp),fun e=>absurd e (by simp)⟩
  ·split
   ·exact fun _=>⟨by simp only;omega,fun e=>absurd e (by simp),fun e=>absurd e (by simp)⟩
   ·exact fun _=>⟨by simp only[List.length_append,List.length_cons,List.length_nil];omega,fun e=>absurd e (by simp),fun e=>absurd e (by simp)⟩
theorem y0 {d:List UInt8}(hd: ∀b∈d,ay b=true){t:Tok}(h:cx d= .ok t):mb t:=by
 unfold cx at h
 split at h
 ·cases h
 ·rename_i hh
  simp only[not_or]at hh
  injection h with h
  subst h
  obtain⟨h1,h2,h3⟩:=hh
  have h0:d≠[]:=fun e=>h2 (by rw[e];rfl)
  have hN:cw d=(valD 0 d:Nat):=by unfold cw;rw[f7 hd h0 (by omega)]
  rw[hN]at h3 ⊢
  intro _
  have hT:Lib.itoa ((valD 0 d:Nat):Int)=Lib.decDigits (valD 0 d):=jO
  have hs:=gq 10 (valD 0 d) (by omega) (by omega)
  exact⟨by show (Lib.itoa ((valD 0 d:Nat):Int)).length≤122;rw[hT];omega,fun _=>⟨valD 0 d,by omega,hT⟩,fun e=>absurd e (by simp)⟩
theorem Cn:po (db fx s n):=by
 unfold db
 simp only
 split
 ·split
  ·rename_i t ht
   exact y0 (fun b hb=>iD b hb) ht
  ·trivial
 ·exact JQ
theorem iO {t:Tok}(h:t.kind≠1):mb t:=fun e=>absurd e h
theorem MA:po (ez fx s n):=by
 unfold ez
 simp only
 split
 ·exact iO (by show (2:Int)≠1;decide)
 ·split
  ·exact iO (by show (2:Int)≠1;decide)
  ·split
   ·exact iO (by show (2:Int)≠1;decide)
   ·split
    ·exact iO (by show (2:Int)≠1;decide)
    ·trivial
theorem Lg:eK.length=6∧d5.length=7:=by decide
theorem JC {w:List UInt8}:mb (dF w):=by
 unfold dF
 split
 ·rename_i h
  have:=Lg
  refine fun _=>⟨?_,fun e=>absurd e (by simp),fun e=>absurd e (by simp)⟩
  rcases h with h|h<;>(simp only[h];omega)
 ·exact iO (by simp)
theorem Eg {out:List Tok}:po (d6 fx s out n):=by
 unfold d6
 split
 ·rename_i h
  simp only[Bool.and_eq_true,decide_eq_true_eq]at h
  obtain⟨_,h1,h2,h3,h4⟩:=h
  unfold m3
  split
  ·trivial
  ·refine uk ?_
   rw[List.length_take]
   omega
 ·unfold dO
  split
  ·split
   ·trivial
   ·exact iO (by simp)
  ·split
   ·exact Cw Cn
   ·split
    ·split
     ·exact JC
     ·trivial
    ·split
     ·have:=Bd (s:=s) (n:=n)
      unfold dA
      cases hq:dP s n with
      |ok q=>rw[hq]at this;exact this
      |error e=>trivial
     ·exact Cw MA
theorem uz: ∀(k n:Nat) (out:List Tok) (kept:List Nat),(∀t∈out,mb t)→ ∀t∈(cD fx s k n out kept).2.1,mb t:=by
 intro k
 induction k with
 |zero=>intro n out kept h;exact h
 |succ k ih=>
  intro n out kept h
  unfold cD
  split
  ·exact h
  ·have hf:=Eg (fx:=fx) (s:=s) (n:=n+ba (s.drop n)) (out:=out)
   split
   ·exact h
   ·rename_i q hq
    rw[hq]at hf
    refine ih _ _ _ fun t ht=> ?_
    rcases List.mem_append.1 ht with h1|h1
    ·exact h t h1
    ·rw[List.mem_singleton.1 h1];exact hf
theorem wY {t:Tok}(h:t∈ey fx s):mb t:=by
 unfold ey at h
 split at h
 ·unfold bD at h
  split at h
  ·simp only at h
   split at h
   ·split at h<;>exact uz _ _ _ _ (fun _ h=>absurd h (by simp)) _ h
   ·exact uz _ _ _ _ (fun _ h=>absurd h (by simp)) _ h
  ·simp at h
 ·simp at h
theorem gZ {t:Tok}:eR s=some t↔(bD false s).e=0∧ey false s=[t]:=by
 unfold eR ey
 constructor
 ·intro h
  split at h
  ·rename_i h1
   obtain⟨_,hl,_⟩:=rQ h1.1
   refine⟨h1.1,?_⟩
   rw[if_pos h1.1]
   rw[h1.2]at hl
   obtain⟨x,hx⟩:=List.length_eq_one_iff.1 hl.symm
   rw[hx]at h ⊢
   simp at h
   rw[h]
  ·cases h
 ·rintro⟨h1,h2⟩
  obtain⟨_,hl,_⟩:=rQ h1
  rw[if_pos h1]at h2
  rw[h2]at hl
  rw[if_pos ⟨h1,hl⟩,h2]
  rfl
theorem HA {k:Int}:uT k s=if eR s=some ⟨1,k,s⟩then 0 else 3:=by
 unfold uT
 by_cases h:eR s=some ⟨1,k,s⟩
 ·rw[if_pos h,if_pos (gZ.1 h)]
 ·rw[if_neg h,if_neg (fun e=>h (gZ.2 e))]
theorem zG {k:Int}:n0 k s=if eR s=some ⟨1,k,s⟩then 0 else 3:=by
 unfold n0
 split
 ·rename_i h
  rw[if_neg ?_]
  intro e
  obtain⟨h1,h2⟩:=gZ.1 e
  have hf:mb ⟨1,k,s⟩:=wY (s:=s) (fx:=false) (by rw[h2];exact List.mem_singleton.2 rfl)
  rcases h with h|h
  ·have:=(hf rfl).1
   simp only at this
   omega
  ·exact h (rQ h1).1
 ·exact HA
theorem ko:iW s=true↔s.length≤10∧(∀b∈s,ay b=true)∧jd s:=by
 unfold iW
 rw[Bool.and_eq_true,Bool.and_eq_true,decide_eq_true_eq,List.all_eq_true,and_assoc]
 refine and_congr_right fun _=>and_congr_right fun hd=> ?_
 match s with
 |[]=>
  constructor
  ·intro h;cases h
  ·rintro(h|⟨c,r,h,_⟩)<;>simp at h
 |c::r=>
  show (!decide (c=48)||decide (c::r=[48]))=true↔_
  rw[Bool.or_eq_true,Bool.not_eq_true',decide_eq_false_iff_not,decide_eq_true_eq]
  constructor
  ·rintro(h|h)
   ·exact Or.inr ⟨c,r,rfl,h⟩
   ·rw[h];exact Or.inl rfl
  ·rintro(h|⟨c',r',h,h2⟩)
   ·simp only[List.length_cons]at h
    have:r=[]:=List.eq_nil_of_length_eq_zero (by omega)
    subst this
    by_cases hc:c=48
    ·subst hc;exact Or.inr rfl
    ·exact Or.inl hc
   ·injection h with h3 h4
    subst h3
    exact Or.inl h2
theorem zg (hs:digR s 0=s.length): ∀b∈s,ay b=true:=by
 unfold digR at hs
 rw[List.drop_zero]at hs
 have h1:(s.takeWhile ay).length=s.length:=hs
 have h2:s.takeWhile ay=s:=(List.takeWhile_prefix ay).eq_of_length h1
 intro b hb
 rw[←h2]at hb
 exact fS _ b hb
theorem eo {p:UInt8→Bool}: ∀(l:List UInt8),(∀b∈l,p b=true)→l.takeWhile p=l
 |[],_=>rfl
 |c::r,h=>by rw[List.takeWhile_cons,h c (by simp),if_pos rfl,eo r fun b hb=>h b (List.mem_cons_of_mem _ hb)]
theorem ta:tv s=true↔iW s=true∧2147483647<valD 0 s:=by
 constructor
 ·intro h
  unfold tv at h
  simp only[Bool.and_eq_true,decide_eq_true_eq,Bool.not_eq_true',Bool.or_eq_false_iff,decide_eq_false_iff_not]at h
  obtain⟨h1,h2,h3,h4,h5⟩:=h
  have hd:=zg (s:=s) (by rw[h2,h1])
  refine⟨ko.2 ⟨by omega,hd,?_⟩,?_⟩
  ·match s,h1 with
   |c::r,_=>exact Or.inr ⟨c,r,rfl,by simpa[eI]using h3⟩
  ·rcases oH s cj (by rw[h1];rfl)with h|h|h
   ·rw[h]at h4;cases h4
   ·exact absurd h h5
   ·have:=lQ cj s (by rw[h1];rfl) oO hd h
    rw[jC]at this
    exact this
 ·rintro⟨h1,h2⟩
  obtain⟨a,b,c⟩:=ko.1 h1
  have h10:s.length=10:=by
   have hb:=(dh s 0 b).2
   by_cases h:s.length≤9
   ·have:10^s.length≤10^9:=Nat.pow_le_pow_right (by omega) h
    omega
   ·omega
  have e1:digR s 0=10:=by unfold digR;rw[List.drop_zero,eo s b,h10]
  have e2:eI (fun c=> !decide (c=48)) s=true:=by
   rcases c with c|⟨x,r,rfl,hx⟩
   ·omega
   ·simpa[eI]using hx
  have e3:Op.bytesLess s cj=false:=by
   cases h:Op.bytesLess s cj with
   |false=>rfl
   |true=>
    have:=lQ s cj (by rw[h10];rfl) b oO h
    rw[jC]at this
    omega
  have e4:s≠cj:=fun e=>by rw[e,jC]at h2;omega
  unfold tv
  rw[decide_eq_true h10,decide_eq_true e1,e2,e3,decide_eq_false e4]
  rfl
theorem wz {t:Tok}{c:UInt8}{kept:List Nat}(hT:bC s=0)(h0:s[0]? =some c)(hc:c≠32)(h:dO false s 0 c= .ok (t,s.length,kept)):eR s=some t:=by
 obtain⟨r,hs⟩: ∃r,s=c::r:=by
  cases s with
  |nil=>cases h0
  |cons x r=>simp at h0;exact⟨r,by rw[h0]⟩
 have hb0:ba (s.drop 0)=0:=by
  rw[List.drop_zero,hs]
  unfold ba
  simp[hc]
 have hg:(s[0]?).getD 0=c:=by rw[h0];rfl
 have htok:d6 false s [] 0= .ok (t,s.length,kept):=by rw[oN,hg,h]
 have hlen:s.length≠0:=by rw[hs];simp
 have hsp:cD false s (s.length+1) 0 [] []=(none,[t],kept):=by
  unfold cD
  rw[hb0,Nat.add_zero,if_neg (by omega),htok]
  simp only[List.nil_append]
  obtain⟨k,hk⟩: ∃k,s.length=k+1:=⟨s.length-1,by omega⟩
  rw[show cD false s s.length s.length [t] kept=cD false s (k+1) s.length [t] kept from by rw[←hk]]
  unfold cD
  rw[if_pos (by omega)]
 have hsc:bD false s=⟨[t],kept,1,0⟩:=by
  unfold bD
  rw[if_pos hT,hsp]
  rfl
 refine gZ.2 ⟨by rw[hsc],?_⟩
 unfold ey
 rw[hsc]
 rfl
theorem Bh (h1:iW s=true)(h2:valD 0 s≤2147483647):eR s=some ⟨1,0,s⟩:=by
 obtain⟨a,b,c⟩:=ko.1 h1
 have h0:s≠[]:=by
  rintro rfl
  rcases c with c|⟨x,r,h,_⟩
  ·simp at c
  ·cases h
 have hT:bC s=0:=by
  unfold bC dC
  rw[if_neg (by omega),if_pos]
  rw[Bool.not_eq_true',List.any_eq_false]
  intro x hx
  have:=bN.1 (b x hx)
  simp only[Bool.or_eq_true,decide_eq_true_eq,not_or]
  omega
 have hW:cl false ay s 0=s:=by rw[gA nH,List.drop_zero,eo s b]
 have hE:runE false ay s 0=s.length:=by rw[gl nH,List.drop_zero,eo s b,Nat.zero_add]
 have hA:atC false s s.length=0:=by rw[cg,List.getElem?_eq_none (Nat.le_refl _)];rfl
 have hD:cS false s 0=false:=by unfold cS;rw[hE,hA];rfl
 have hN:numEnd false s 0=s.length:=by unfold numEnd;rw[hD];exact hE
 have hX:(aY false s s.length).2.2.2=false:=by
  unfold aY
  have:bZ false s s.length=0:=by unfold bZ;rw[hA];rfl
  rw[this]
  rfl
 have hI:cx s= .ok ⟨1,0,s⟩:=by
  have ha:=f7 b h0 a
  have hv:cw s=(valD 0 s:Nat):=by unfold cw;rw[ha]
  have hk:jY s=true:=by unfold jY;rw[ha]
  unfold cx
  rw[if_neg (by rw[hk,hv];simp;omega),hv,jO,CX s.length s rfl b c]
 have hnum:db false s 0= .ok (⟨1,0,s⟩,s.length):=by
  unfold db
  simp only[hN,hX,hD]
  rw[show bT false s 0=s from hW,hI]
  rfl
 obtain⟨x,r,hs⟩: ∃x r,s=x::r:=by
  cases s with
  |nil=>exact absurd rfl h0
  |cons x r=>exact⟨x,r,rfl⟩
 have hx:ay x=true:=b x (by rw[hs];simp)
 have hxl:bg x=false:=by
  have:=bN.1 hx
  unfold bg
  rw[Bool.or_eq_false_iff,Bool.and_eq_false_iff,Bool.and_eq_false_iff,decide_eq_false_iff_not,decide_eq_false_iff_not,decide_eq_false_iff_not]
  omega
 refine wz (c:=x) (kept:=[]) hT (by rw[hs];rfl) (fun e=>by rw[e]at hx;exact absurd hx (by decide)) ?_
 unfold dO
 rw[hxl,hx,hnum]
 rfl
theorem uc:eR s=some ⟨1,0,s⟩↔iW s=true∧valD 0 s≤2147483647:=by
 constructor
 ·intro h
  obtain⟨h1,h2⟩:=gZ.1 h
  have hf:mb ⟨1,0,s⟩:=wY (s:=s) (fx:=false) (by rw[h2];exact List.mem_singleton.2 rfl)
  obtain⟨m,hm,ht⟩:=(hf rfl).2.1 rfl
  simp only at ht
  have hs:=gq 10 m (by omega) (by omega)
  refine⟨ko.2 ⟨by rw[ht];exact hs,by rw[ht];exact gV m,by rw[ht];exact tl m⟩,by rw[ht,iL];exact hm⟩
 ·rintro⟨h1,h2⟩
  exact Bh h1 h2
theorem fe (k:Int):bm k s=xC k s:=by
 unfold bm xC
 by_cases h0:k=0
 ·subst h0
  rw[if_pos rfl,zG]
  simp only[true_and]
  rw[show (!(decide ((0:Int)≤0)&&decide ((0:Int)≤6))||(decide ((0:Int)=3)||decide ((0:Int)=4)))=false from rfl,if_neg (by simp: ¬(false=true))]
  by_cases hf:iW s=true
  ·rw[if_pos hf]
   by_cases hv:2147483647<valD 0 s
   ·rw[if_pos hv,if_pos (ta.2 ⟨hf,hv⟩)]
   ·rw[if_neg hv,if_neg (fun e=>hv (ta.1 e).2),if_pos (uc.2 ⟨hf,by omega⟩)]
  ·rw[if_neg hf,if_neg (fun e=>hf (ta.1 e).1),if_neg (fun e=>hf (uc.1 e).1)]
 ·rw[if_neg h0]
  simp only[h0,false_and,if_false]
  by_cases h:k=1∨k=2∨k=5∨k=6
  ·have hk:(!(decide (0≤k)&&decide (k≤6))||(decide (k=3)||decide (k=4)))=false:=by rcases h with rfl|rfl|rfl|rfl<;>decide
   rw[if_pos h,hk,if_neg (by simp: ¬(false=true)),zG]
  ·rw[if_neg h,if_pos]
   simp only[Bool.or_eq_true,Bool.not_eq_true',Bool.and_eq_false_iff,decide_eq_false_iff_not,decide_eq_true_eq]
   omega
end
end Go.Abs
set_option linter.unusedVariables false
set_option linter.unusedSimpArgs false
set_option maxRecDepth 100000
namespace Go.Abs
open Go Go.Proofs
end Go.Abs
set_option linter.unusedVariables false
set_option linter.unusedSimpArgs false
set_option maxRecDepth 100000
namespace Go.Abs
open Go Go.Proofs
theorem yz {s:List UInt8}:dC s=true↔ ∀b∈s,32≤b.toNat∧b.toNat≤126:=by
 unfold dC
 rw[Bool.not_eq_true',List.any_eq_false]
 constructor
 ·intro h b hb
  have:=h b hb
  simp only[Bool.or_eq_true,decide_eq_true_eq,not_or]at this
  omega
 ·intro h b hb
  have:=h b hb
  simp only[Bool.or_eq_true,decide_eq_true_eq,not_or]
  omega
section
variable {μ:Mu}{s:List UInt8}
def mid (s:List UInt8):List UInt8:=(s.drop 1).take (s.length-2)
end
end Go.Abs
set_option linter.unusedVariables false
set_option linter.unusedSimpArgs false
namespace Go.Abs
open Go Go.Proofs
def cz (ty p:Int):List UInt8:=if ty=2 then [68]++Lib.itoa p else if p≠0 then [69]++Lib.itoa p else []
def aS (W P:List UInt8)(ty p:Int):List UInt8:=W++(46::(P++cz ty p))
structure RealOK (W P:List UInt8) (ty p:Int):Prop where
 wd: ∀b∈W,ay b=true
 wl:jd W
 pd: ∀b∈P,ay b=true
 pl:jd P.reverse
 cnt:countR W+countR P≤30
 p1: -999≤p
 p2:p≤999
 ty:ty=1∨ty=2
theorem lB {l:List UInt8}(h:jd l):l≠[]:=by
 rintro rfl
 rcases h with h|⟨c,r,h,_⟩
 ·simp at h
 ·cases h
theorem yK {l:List UInt8}(h:jd l):bx l=l:=by
 match l,h with
 |[],h=>rfl
 |[c],h=>rfl
 |c::d::r,h=>
  rcases h with h|⟨x,y,h,hx⟩
  ·simp at h
  ·injection h with h _
   subst h
   unfold bx
   rw[if_neg hx]
theorem w5 (l:List UInt8):aU l≠[]:=by
 unfold aU
 split
 ·simp
 ·assumption
theorem oa {l:List UInt8}(h: ∀b∈l,ay b=true): ∀b∈aU l,ay b=true:=by
 unfold aU
 split
 ·intro b hb;rw[List.mem_singleton.1 hb];rfl
 ·exact h
theorem Jh {W:List UInt8}(h:jd W):before W=W:=by
 unfold before aU
 rw[if_neg (lB h),yK h]
theorem Kr {P:List UInt8}(h:jd P.reverse):after P=P:=by
 have h0:P≠[]:=fun e=>lB h (by rw[e];rfl)
 unfold after aU fj
 rw[if_neg h0,yK h,List.reverse_reverse]
theorem Lr {whole part:List UInt8}{kind exp:Int}{e:Nat}{q:Tok×Nat}(h:dq whole part kind exp e= .ok q)(hw: ∀b∈whole,ay b=true)(hp: ∀b∈part,ay b=true)(hk:kind=1∨kind=2)(h1: -999≤exp)(h2:exp≤999):
  ∃W P,RealOK W P kind exp∧q.1=⟨1,kind,aS W P kind exp⟩:=by
 unfold dq at h
 split at h
 ·cases h
 ·rename_i hc
  refine⟨before whole,after part,⟨fun b hb=>oa hw b (kG _ b hb),lg _ (w5 _),fun b hb=> ?_,?_,by omega,h1,h2,hk⟩,?_⟩
  ·unfold after fj at hb
   have:=kG _ b (List.mem_reverse.1 hb)
   exact oa hp b (List.mem_reverse.1 this)
  ·unfold after fj
   rw[List.reverse_reverse]
   exact lg _ (by simpa using w5 part)
  ·unfold aS cz
   split at h
   ·rename_i h3
    injection h with h
    rw[←h,if_pos h3]
    simp
   ·rename_i h3
    split at h
    ·rename_i h4
     injection h with h
     rw[←h,if_neg h3,if_pos h4]
     simp
    ·rename_i h4
     injection h with h
     rw[←h,if_neg h3,if_neg h4]
     simp
section
variable {s:List UInt8}{n:Nat}
def ln (t:Tok):Prop:=t.kind=1→(t.type=1∨t.type=2)→ ∃W P p,RealOK W P t.type p∧t.text=aS W P t.type p
def rX {β:Type}:Except Int (Tok×β)→Prop
 | .ok q=>ln q.1
 | .error _=>True
theorem DN {q:Except Int (Tok×Nat)}(h:rX q):rX (noK q):=by cases q<;>exact h
theorem pW {t:Tok}(h:t.type≠1∧t.type≠2):ln t:=fun _ e=>e.elim (fun e=>absurd e h.1) (fun e=>absurd e h.2)
theorem iH {t:Tok}(h:t.kind≠1):ln t:=fun e=>absurd e h
theorem tn {k m:Nat}: ∀b∈(s.drop k).take (digR s k),ay b=true:=by
 have:=(jT (s:=s) (n:=k)).1
 intro b hb
 rw[←this]at hb
 exact iD b hb
theorem Jv (h:(aV false s n).length≤3): -999≤dj s n∧dj s n≤999:=by
 have hd: ∀b∈aV false s n,ay b=true:=iD
 have hb:=(dh _ 0 hd).2
 have:10^(aV false s n).length≤10^3:=Nat.pow_le_pow_right (by omega) h
 unfold dj
 split<;>omega
theorem wM {whole part:List UInt8}{point:Bool}{e:Nat}(hw: ∀b∈whole,ay b=true)(hp: ∀b∈part,ay b=true):rX (f8 s whole part point e):=by
 unfold f8
 have key: ∀(kind exp:Int) (e':Nat),(kind=1∨kind=2)→ -999≤exp→exp≤999→rX (dq whole part kind exp e'):=by
  intro kind exp e' hk h1 h2
  cases h:dq whole part kind exp e' with
  |error x=>trivial
  |ok q=>
   obtain⟨W,P,ho,hq⟩:=Lr h hw hp hk h1 h2
   show ln q.1
   rw[hq]
   exact fun _ _=>⟨W,P,exp,ho,rfl⟩
 split
 ·split
  ·trivial
  ·rename_i h3
   have:=Jv (s:=s) (n:=e) (by omega)
   exact key _ _ _ (by split<;>simp) this.1 this.2
 ·split
  ·exact key 1 0 e (Or.inl rfl) (by omega) (by omega)
  ·unfold kV
   split
   ·trivial
   ·split
    ·trivial
    ·exact pW (by simp)
theorem BB {c:UInt8}(h:s[n]? =some c)(hc:ay c=true∨(c=46∧ay ((s[n+1]?).getD 0)=true)):rX (db false s n):=by
 rw[←oq h hc]
 unfold f9
 split
 ·exact wM (tn (m:=0)) (tn (m:=0))
 ·exact wM (tn (m:=0)) (by simp)
theorem FX {c:UInt8}(h:s[n]? =some c):rX (dO false s n c):=by
 unfold dO
 split
 ·split
  ·trivial
  ·exact iH (by simp)
 ·split
  ·rename_i hd
   refine DN (BB h ?_)
   simp only[Bool.or_eq_true,Bool.and_eq_true,decide_eq_true_eq]at hd
   rcases hd with hd|hd
   ·exact Or.inl hd
   ·exact Or.inr ⟨hd.1,hd.2⟩
  ·split
   ·split
    ·unfold dF
     show ln _
     split
     ·exact pW (by simp)
     ·exact iH (by simp)
    ·trivial
   ·split
    ·unfold dA dP
     split
     ·rename_i q hq
      split at hq
      ·cases hq
      ·split at hq
       ·cases hq
       ·injection hq with hq
        show ln q.1
        rw[←hq]
        exact pW (by simp)
     ·trivial
    ·refine DN ?_
     unfold ez
     simp only
     split
     ·exact iH (by show (2:Int)≠1;decide)
     ·split
      ·exact iH (by show (2:Int)≠1;decide)
      ·split
       ·exact iH (by show (2:Int)≠1;decide)
       ·split
        ·exact iH (by show (2:Int)≠1;decide)
        ·trivial
theorem uH: ∀(k n:Nat) (out:List Tok) (kept:List Nat),(∀t∈out,ln t)→ ∀t∈(cD false s k n out kept).2.1,ln t:=by
 intro k
 induction k with
 |zero=>intro n out kept h;exact h
 |succ k ih=>
  intro n out kept h
  unfold cD
  split
  ·exact h
  ·rename_i hlt
   have hl:n+ba (s.drop n)<s.length:=by omega
   have hf:=FX (s:=s) (n:=n+ba (s.drop n)) (c:=s[n+ba (s.drop n)]) (List.getElem?_eq_getElem hl)
   split
   ·exact h
   ·rename_i q hq
    rw[oN,List.getElem?_eq_getElem hl]at hq
    simp only[Option.getD_some]at hq
    rw[hq]at hf
    refine ih _ _ _ fun t ht=> ?_
    rcases List.mem_append.1 ht with h1|h1
    ·exact h t h1
    ·rw[List.mem_singleton.1 h1];exact hf
theorem IB {t:Tok}(h:t∈ey false s):ln t:=by
 unfold ey at h
 split at h
 ·unfold bD at h
  split at h
  ·simp only at h
   split at h
   ·split at h<;>exact uH _ _ _ _ (fun _ h=>absurd h (by simp)) _ h
   ·exact uH _ _ _ _ (fun _ h=>absurd h (by simp)) _ h
  ·simp at h
 ·simp at h
theorem Er {ty:Int}(ht:ty=1∨ty=2)(h:bm ty s=0): ∃W P p,RealOK W P ty p∧s=aS W P ty p:=by
 unfold bm at h
 rw[if_neg (by rcases ht with rfl|rfl<;>decide),if_pos (by rcases ht with rfl|rfl<;>simp)]at h
 by_cases hs:eR s=some ⟨1,ty,s⟩
 ·obtain⟨h1,h2⟩:=gZ.1 hs
  exact IB (s:=s) (t:=⟨1,ty,s⟩) (by rw[h2];exact List.mem_singleton.2 rfl) rfl ht
 ·rw[if_neg hs]at h;cases h
end
theorem mO {l:List UInt8}:l.length≤countR l+1:=by
 unfold countR
 split
 ·rename_i h;rw[h];exact Nat.le_refl _
 ·omega
theorem lq (p:Int):(∃m:Nat,p=(m:Int)∧Lib.itoa p=Lib.decDigits m)∨ ∃m:Nat,1≤m∧p= -(m:Int)∧Lib.itoa p=45::Lib.decDigits m:=by
 by_cases h:0≤p
 ·obtain⟨m,rfl⟩: ∃m:Nat,p=(m:Int):=⟨p.toNat,by omega⟩
  exact Or.inl ⟨m,rfl,jO⟩
 ·obtain⟨m,rfl⟩: ∃m:Nat,p= -(m:Int):=⟨(-p).toNat,by omega⟩
  exact Or.inr ⟨m,by omega,rfl,tN (by omega)⟩
theorem kF (m:Nat):Lib.decDigits m≠[]:=lB (tl m)
theorem zL (p:Int): ∀b∈Lib.itoa p,b=45∨ay b=true:=by
 intro b hb
 rcases lq p with⟨m,_,h⟩|⟨m,_,_,h⟩
 ·rw[h]at hb;exact Or.inr (gV m b hb)
 ·rw[h]at hb
  rcases List.mem_cons.1 hb with h|h
  ·exact Or.inl h
  ·exact Or.inr (gV m b h)
theorem IE (ty p:Int): ∀b∈cz ty p,b=68∨b=69∨b=45∨ay b=true:=by
 intro b hb
 unfold cz at hb
 split at hb
 ·rcases List.mem_append.1 hb with h|h
  ·exact Or.inl (List.mem_singleton.1 h)
  ·exact Or.inr (Or.inr (zL p b h))
 ·split at hb
  ·rcases List.mem_append.1 hb with h|h
   ·exact Or.inr (Or.inl (List.mem_singleton.1 h))
   ·exact Or.inr (Or.inr (zL p b h))
  ·simp at hb
theorem wk {b:UInt8}(h:ay b=true):32≤b.toNat∧b.toNat≤126:=by
 have:=bN.1 h
 omega
theorem wX {W P:List UInt8}{ty p:Int}(h:RealOK W P ty p):bC (aS W P ty p)=0:=by
 have h1:=mO (l:=W)
 have h2:=mO (l:=P)
 have h3:=h.cnt
 have h4:(cz ty p).length≤22:=by
  have:=Lib.itoa_length_le p (by have:=h.p1;omega) (by have:=h.p2;omega)
  unfold cz
  split
  ·simp;omega
  ·split
   ·simp;omega
   ·simp
 unfold bC
 rw[if_neg (by unfold aS;simp only[List.length_append,List.length_cons];omega),if_pos]
 rw[yz]
 intro b hb
 unfold aS at hb
 rcases List.mem_append.1 hb with hb|hb
 ·exact wk (h.wd b hb)
 ·rcases List.mem_cons.1 hb with hb|hb
  ·subst hb;decide
  ·rcases List.mem_append.1 hb with hb|hb
   ·exact wk (h.pd b hb)
   ·rcases IE ty p b hb with hb|hb|hb|hb
    ·subst hb;decide
    ·subst hb;decide
    ·subst hb;decide
    ·exact wk hb
theorem nV {W:List UInt8}{p:UInt8→Bool}: ∀(v r:List UInt8),(∀b∈v,p b=true)→(∀c t,r=c::t→p c=false)→(v++r).takeWhile p=v
 |[],[],_,_=>rfl
 |[],c::t,_,h=>by rw[List.nil_append,List.takeWhile_cons,h c t rfl];rfl
 |a::v,r,h1,h2=>by
  rw[List.cons_append,List.takeWhile_cons,h1 a (by simp),if_pos rfl,nV (W:=W) v r (fun b hb=>h1 b (List.mem_cons_of_mem _ hb)) h2]
section
variable {W P:List UInt8}{ty p:Int}
theorem Cp {s q:List UInt8}{L:UInt8}(hL:L=69∨L=68)(hs:s=q++L::Lib.itoa p)(h1: -999≤p)(h2:p≤999):
  (aY false s q.length).2.2.2=true∧(aV false s q.length).length≤3∧(aY false s q.length).1=L∧dj s q.length=p∧(aY false s q.length).2.2.1=s.length:=by
 have hlt:q.length<s.length:=by rw[hs];simp
 have hg0:atC false s q.length=L:=by rw[cg,hs,List.getElem?_append_right (Nat.le_refl _)];simp
 have hE:atE false s q.length=q.length+1:=by rw[dp,if_pos hlt]
 have hxL:bZ false s q.length=L:=by unfold bZ;rw[hg0];rcases hL with rfl|rfl<;>rfl
 have hdrop1:s.drop (q.length+1)=Lib.itoa p:=by rw[hs,←List.drop_drop,List.drop_left' rfl];rfl
 have hat1:atC false s (q.length+1)=((Lib.itoa p)[0]?).getD 0:=by
  rw[cg,←hdrop1,List.getElem?_drop]
 have hcond:bZ false s q.length=69∨bZ false s q.length=68:=by rw[hxL];exact hL
 have hx:aY false s q.length=(bZ false s q.length,cO false s q.length++aV false s q.length,runE false ay s (expStart false s q.length),!decide (aV false s q.length=[])):=by
  unfold aY;rw[if_pos hcond]
 have key: ∀(m:Nat) (st:Nat),m≤999→expStart false s q.length=st→s.drop st=Lib.decDigits m→st+(Lib.decDigits m).length=s.length→
   aV false s q.length=Lib.decDigits m∧(Lib.decDigits m).length≤3∧runE false ay s (expStart false s q.length)=s.length:=by
  intro m st hm h3 h4 h5
  have h6:(s.drop st).takeWhile ay=Lib.decDigits m:=by rw[h4];exact eo _ (gV m)
  refine⟨?_,gq 3 m (by omega) (by omega),?_⟩
  ·unfold aV;rw[h3,gA nH,h6]
  ·rw[h3,gl nH,h6,h5]
 have hlen:s.length=q.length+1+(Lib.itoa p).length:=by rw[hs];simp;omega
 rcases lq p with⟨m,hm,hi⟩|⟨m,hm1,hm,hi⟩
 ·obtain⟨c,r,hcr⟩: ∃c r,Lib.decDigits m=c::r:=by
   cases h:Lib.decDigits m with
   |nil=>exact absurd h (kF m)
   |cons c r=>exact⟨c,r,rfl⟩
  have hcd:ay c=true:=gV m c (by rw[hcr];simp)
  have hc:atC false s (q.length+1)=c:=by rw[hat1,hi,hcr];rfl
  have hn45:c≠45:=by rintro rfl;exact absurd hcd (by decide)
  have hn43:c≠43:=by rintro rfl;exact absurd hcd (by decide)
  have hst:expStart false s q.length=q.length+1:=by unfold expStart;rw[hE,hc,if_neg (by simp[hn43,hn45])]
  obtain⟨k1,k2,k3⟩:=key m (q.length+1) (by omega) hst (by rw[hdrop1,hi]) (by rw[hlen,hi])
  rw[hx]
  refine⟨by simp[k1,kF m],by rw[k1];exact k2,hxL,?_,k3⟩
  unfold dj
  rw[hc,if_neg hn45,k1,iL,hm]
 ·have hc:atC false s (q.length+1)=45:=by rw[hat1,hi];rfl
  have hlt1:q.length+1<s.length:=by rw[hlen,hi];simp
  have hst:expStart false s q.length=q.length+2:=by
   unfold expStart
   rw[hE,hc,if_pos (Or.inr rfl),dp,if_pos hlt1]
  have hd2:s.drop (q.length+2)=Lib.decDigits m:=by
   rw[show q.length+2=(q.length+1)+1 from rfl,←List.drop_drop,hdrop1,hi];rfl
  obtain⟨k1,k2,k3⟩:=key m (q.length+2) (by omega) hst hd2 (by rw[hlen,hi];simp;omega)
  rw[hx]
  refine⟨by simp[k1,kF m],by rw[k1];exact k2,hxL,?_,k3⟩
  unfold dj
  rw[hc,if_pos rfl,k1,iL,hm]
theorem Fl: ∀c t,cz ty p=c::t→ay c=false:=by
 intro c t h
 unfold cz at h
 split at h
 ·injection h with h _;subst h;decide
 ·split at h
  ·injection h with h _;subst h;decide
  ·cases h
theorem BU (h:RealOK W P ty p):f9 (aS W P ty p) 0= .ok (⟨1,ty,aS W P ty p⟩,(aS W P ty p).length):=by
 have hd0:(aS W P ty p).drop 0=W++46::(P++cz ty p):=rfl
 have e1:digR (aS W P ty p) 0=W.length:=by
  unfold digR
  rw[hd0,jy (by decide) W _ h.wd]
 have e2:(aS W P ty p)[0+W.length]? =some 46:=by unfold aS;rw[Nat.zero_add,List.getElem?_append_right (Nat.le_refl _)];simp
 have hd1:(aS W P ty p).drop (0+W.length+1)=P++cz ty p:=by
  unfold aS
  rw[Nat.zero_add,←List.drop_drop,List.drop_left' rfl];rfl
 have e3:digR (aS W P ty p) (0+W.length+1)=P.length:=by
  unfold digR
  rw[hd1,nV (W:=W) P _ h.pd Fl]
 have hP:P≠[]:=fun e=>lB h.pl (by rw[e];rfl)
 have e4:jV (aS W P ty p) 0=false:=by
  unfold jV
  rw[e1,Bool.and_eq_false_iff]
  right
  rw[List.any_eq_false]
  intro w hw hb
  have hb':bp (aS W P ty p) (0+W.length) w=true:=by simpa using hb
  obtain⟨_,_,h3,_⟩:=fR (im w hw) hb'
  have hlt:0+W.length<(aS W P ty p).length:=by unfold aS;simp
  obtain⟨c,r,hcr⟩: ∃c r,P=c::r:=by
   cases P with
   |nil=>exact absurd rfl hP
   |cons c r=>exact⟨c,r,rfl⟩
  have hcd:ay c=true:=h.pd c (by rw[hcr];simp)
  have hcl:bg c=false:=by
   have:=bN.1 hcd
   unfold bg
   rw[Bool.or_eq_false_iff,Bool.and_eq_false_iff,Bool.and_eq_false_iff,decide_eq_false_iff_not,decide_eq_false_iff_not,decide_eq_false_iff_not]
   omega
  have h6:((aS W P ty p).drop (0+W.length+1)).takeWhile bg=[]:=by
   rw[hd1,hcr,List.cons_append,List.takeWhile_cons,hcl];rfl
  rw[dp,if_pos hlt,gl qt,h6]at h3
  simp only[List.length_nil,Nat.add_zero]at h3
  have h5:(aS W P ty p)[0+W.length+1]? =some c:=by
   have:((aS W P ty p).drop (0+W.length+1))[0]? =some c:=by rw[hd1,hcr];rfl
   rw[List.getElem?_drop]at this
   exact this
  rw[cg,h5]at h3
  simp only[Option.getD_some]at h3
  subst h3
  exact absurd hcd (by decide)
 unfold f9
 rw[e4,e1,e2,e3,hd1]
 simp only[Bool.not_false,Bool.true_and,decide_true,if_true]
 rw[hd0,List.take_left' rfl,List.take_left' rfl,Nat.zero_add]
 have hq:aS W P ty p=(W++46::P)++cz ty p:=by unfold aS;simp
 have hql:(W++46::P).length=W.length+1+P.length:=by simp;omega
 have hr: ∀(kind exp:Int) (e:Nat),dq W P kind exp e=if kind=2 then .ok (⟨1,kind,W++[46]++P++[68]++Lib.itoa exp⟩,e)else if exp≠0 then .ok (⟨1,kind,W++[46]++P++[69]++Lib.itoa exp⟩,e)else .ok (⟨1,kind,W++[46]++P⟩,e):=by
  intro kind exp e
  unfold dq
  rw[Jh h.wl,Kr h.pl,if_neg (by have:=h.cnt;omega)]
 unfold f8
 by_cases ht:ty=2
 ·have hs:aS W P ty p=(W++46::P)++68::Lib.itoa p:=by rw[hq];unfold cz;rw[if_pos ht];rfl
  obtain⟨x1,x2,x3,x4,x5⟩:=Cp (p:=p) (Or.inr rfl) hs h.p1 h.p2
  rw[hql]at x1 x2 x3 x4 x5
  rw[x1,if_pos rfl,if_neg (by omega),x3,if_pos rfl,x4,x5,hr,if_pos rfl,ht,←ht]
  congr 3
  rw[hs];simp
 ·have ht1:ty=1:=h.ty.elim id (fun e=>absurd e ht)
  by_cases hp:p=0
  ·have hs:aS W P ty p=W++46::P:=by rw[hq];unfold cz;rw[if_neg ht,if_neg (by simp[hp])];simp
   have hA:atC false (aS W P ty p) (W.length+1+P.length)=0:=by
    rw[cg,List.getElem?_eq_none (by rw[hs,hql];omega)];rfl
   have hX:(aY false (aS W P ty p) (W.length+1+P.length)).2.2.2=false:=by
    unfold aY
    have:bZ false (aS W P ty p) (W.length+1+P.length)=0:=by unfold bZ;rw[hA];rfl
    rw[this]
    rfl
   rw[hX,if_neg (by simp),if_pos rfl,hr,if_neg (by decide),if_neg (by simp),hs,hql,ht1]
   simp
  ·have hs:aS W P ty p=(W++46::P)++69::Lib.itoa p:=by rw[hq];unfold cz;rw[if_neg ht,if_pos hp];rfl
   obtain⟨x1,x2,x3,x4,x5⟩:=Cp (p:=p) (Or.inl rfl) hs h.p1 h.p2
   rw[hql]at x1 x2 x3 x4 x5
   rw[x1,if_pos rfl,if_neg (by omega),x3,if_neg (by decide),x4,x5,hr,if_neg (by decide),if_pos hp,ht1,←ht1]
   congr 3
   rw[hs];simp
theorem sf (h:RealOK W P ty p):eR (aS W P ty p)=some ⟨1,ty,aS W P ty p⟩:=by
 obtain⟨c,r,hcr⟩: ∃c r,W=c::r:=by
  cases hw:W with
  |nil=>exact absurd hw (lB h.wl)
  |cons c r=>exact⟨c,r,rfl⟩
 have hcd:ay c=true:=h.wd c (by rw[hcr];simp)
 have hcl:bg c=false:=by
  have:=bN.1 hcd
  unfold bg
  rw[Bool.or_eq_false_iff,Bool.and_eq_false_iff,Bool.and_eq_false_iff,decide_eq_false_iff_not,decide_eq_false_iff_not,decide_eq_false_iff_not]
  omega
 have hg:(aS W P ty p)[0]? =some c:=by unfold aS;rw[hcr];rfl
 refine wz (c:=c) (kept:=[]) (wX h) hg (fun e=>by rw[e]at hcd;exact absurd hcd (by decide)) ?_
 unfold dO
 rw[hcl,hcd,←oq hg (Or.inl hcd),BU h]
 rfl
theorem iu (h:RealOK W P ty p):bm ty (aS W P ty p)=0:=by
 unfold bm
 rw[if_neg (by rcases h.ty with rfl|rfl<;>decide),if_pos (by rcases h.ty with rfl|rfl<;>simp),if_pos (sf h)]
end
end Go.Abs
set_option linter.unusedVariables false
set_option linter.unusedSimpArgs false
set_option maxRecDepth 100000
namespace Go.Abs
open Go Go.Proofs
section
variable {μ:Mu}{s:List UInt8}
theorem PF {t:List UInt8}(h:s.length≤1000000)(h2:t.length≤1000000)(h3:ij s=true)(h4:ij t=true):(ev E).call 60 [LV.str s,LV.str t] μ=some (.ret (LV.int .i64 (Lib.indexAny s t)) μ):=by
 refine du (g:=mv) (by kernel_rfl) ?_
 have:(cB s&&cB t&&ij s&&ij t)=true:=by simp[cB,h,h2,h3,h4]
 simp only[mv,eP,aj,aa,ak,ah,this,aw]
def gf (s:List UInt8):Int×Int:=if bm 0 s≠3 then(0,bm 0 s)else if bm 1 s≠3 then(1,bm 1 s)else if bm 2 s≠3 then(2,bm 2 s)else(0,3)
theorem E5 (hs:s.length≤200000):(ev E).call 59 [LV.str s] μ=some (.ret (.ltup [LV.int .i64 (gf s).1,LV.int .i64 (gf s).2]) μ):=by
 refine aK ?_
 rw[QZ]
 have step: ∀(j:Nat) (k:Int) (st:St),dZ [CV.int .i64 0,CV.int .i64 1,CV.int .i64 2] (j:Int)=some (CV.int .i64 k)→j<3→
   uN (ev E) s [CV.int .i64 0,CV.int .i64 1,CV.int .i64 2] 3 ((j+1:Nat):Int) μ=some st→
   uN (ev E) s [CV.int .i64 0,CV.int .i64 1,CV.int .i64 2] 3 (j:Int) μ=some (if bm k s≠3 then sU k (bm k s) μ else st):=by
  intro j k st hk hj hst
  refine bb ?_
  rw[C9,decide_eq_true (by omega:(j:Int)<3),cond_true,hk,aa,am,aa,P1 hs,bV (by omega)]
  simp only[ad,ao,aa,aj,am,ah,ae,ak,aw,cond_true,cond_false,Bool.not_true,Bool.not_false,ar,au,aq]
  by_cases h:bm k s=3
  ·rw[decide_eq_true h,if_neg (by simp[h]),Bool.not_true,cond_false,hst]
  ·rw[decide_eq_false h,if_pos h];rfl
 have h3:uN (ev E) s [CV.int .i64 0,CV.int .i64 1,CV.int .i64 2] 3 ((2+1:Nat):Int) μ=some (tO μ):=by
  refine bb ?_
  rw[C9]
  rfl
 have h2:=step 2 2 _ rfl (by omega) h3
 have h1:=step 1 1 _ rfl (by omega) h2
 have h0:=step 0 0 _ rfl (by omega) h1
 have e0:((0:Nat):Int)=0:=rfl
 rw[e0]at h0
 rw[h0,aa]
 unfold gf
 by_cases k0:bm 0 s=3
 ·by_cases k1:bm 1 s=3
  ·by_cases k2:bm 2 s=3
   ·simp only[ne_eq,k0,k1,k2,not_true_eq_false,if_false]
    exact Ec _ _
   ·simp only[ne_eq,k0,k1,k2,not_true_eq_false,not_false_eq_true,if_false,if_true]
    exact oW _ _ _ _
  ·simp only[ne_eq,k0,k1,not_true_eq_false,not_false_eq_true,if_false,if_true]
   exact oW _ _ _ _
 ·simp only[ne_eq,k0,not_true_eq_false,not_false_eq_true,if_false,if_true]
  exact oW _ _ _ _
theorem lp {k:Int}(hk:k=1∨k=2):bm k s=0∨bm k s=3:=by
 unfold bm
 rw[if_neg (by rcases hk with rfl|rfl<;>decide),if_pos (by rcases hk with rfl|rfl<;>simp)]
 split
 ·exact Or.inl rfl
 ·exact Or.inr rfl
theorem sB:bm 0 s=0∨bm 0 s=3∨bm 0 s=28:=by
 unfold bm
 rw[if_pos rfl]
 split
 ·split
  ·exact Or.inr (Or.inr rfl)
  ·exact Or.inl rfl
 ·exact Or.inr (Or.inl rfl)
section
variable {W P:List UInt8}{ty p:Int}
theorem FR (h:RealOK W P ty p):bm 0 (aS W P ty p)=3:=by
 unfold bm
 rw[if_pos rfl,if_neg]
 intro hf
 have:=(ko.1 hf).2.1 46 (by unfold aS;simp)
 exact absurd this (by decide)
theorem Qe (h:RealOK W P 2 p):bm 1 (aS W P 2 p)=3:=by
 unfold bm
 rw[if_neg (by decide),if_pos (by decide),if_neg]
 rw[sf h]
 intro e
 injection e with e
 injection e with _ e _
 exact absurd e (by decide)
theorem JP (h:RealOK W P ty p):gf (aS W P ty p)=(ty,0):=by
 unfold gf
 rw[if_neg (by simp[FR h])]
 rcases h.ty with rfl|rfl
 ·rw[if_pos (by rw[iu h];decide),iu h]
 ·rw[if_neg (by simp[Qe h]),if_pos (by rw[iu h];decide),iu h]
def d8 (W P:List UInt8)(p:Int):List UInt8×Int:=
 if bn (br (W++P))=[]then([48],0)else(bn (br (W++P)),p-(P.length:Int)+((br (W++P)).length:Int) -((bn (br (W++P))).length:Int))
theorem lI (h:RealOK W P ty p):W.length≤31∧P.length≤31∧(Lib.itoa p).length≤21∧(aS W P ty p).length≤100:=by
 have h1:=mO (l:=W)
 have h2:=mO (l:=P)
 have h3:=h.cnt
 have h4:=Lib.itoa_length_le p (by have:=h.p1;omega) (by have:=h.p2;omega)
 refine⟨by omega,by omega,h4,?_⟩
 unfold aS cz
 split
 ·simp;omega
 ·split
  ·simp;omega
  ·simp;omega
theorem Iz (h1: -999≤p)(h2:p≤999):cw (Lib.itoa p)=p:=by
 rcases lq p with⟨m,rfl,hi⟩|⟨m,hm,rfl,hi⟩
 ·have hl:=gq 3 m (by omega) (by omega)
  rw[hi]
  unfold cw
  rw[f7 (gV m) (kF m) (by omega),iL]
 ·have hl:=gq 3 m (by omega) (by omega)
  rw[hi]
  unfold cw
  rw[ua (gV m) (kF m) (by omega),iL]
theorem AF: ∀(l c:List UInt8),(∀b∈l,b ∉ c)→Lib.indexAny l c= -1
 |[],c,_=>rfl
 |a::l,c,h=>by
  unfold Lib.indexAny
  have h1:=AF l c fun b hb=>h b (List.mem_cons_of_mem _ hb)
  rw[if_neg (by simpa using h a (by simp)),h1]
  rfl
theorem Jk: ∀(a l c:List UInt8) (x:UInt8),(∀b∈a,b ∉ c)→x∈c→Lib.indexAny (a++x::l) c=(a.length:Int)
 |[],l,c,x,_,hx=>by
  rw[List.nil_append]
  unfold Lib.indexAny
  rw[if_pos (by simpa using hx)]
  rfl
 |y::a,l,c,x,h,hx=>by
  have h1:=Jk a l c x (fun b hb=>h b (List.mem_cons_of_mem _ hb)) hx
  rw[List.cons_append]
  unfold Lib.indexAny
  rw[if_neg (by simpa using h y (by simp)),h1,if_neg (by simp;try omega)]
  simp
theorem zh {b:UInt8}(h:ay b=true):b ∉([69,68]:List UInt8):=by
 intro hb
 rcases List.mem_cons.1 hb with rfl|hb
 ·exact absurd h (by decide)
 ·rw[List.mem_singleton.1 hb]at h
  exact absurd h (by decide)
theorem w6 (h:RealOK W P ty p): ∀b∈W++46::P,b ∉([69,68]:List UInt8):=by
 intro b hb
 rcases List.mem_append.1 hb with hb|hb
 ·exact zh (h.wd b hb)
 ·rcases List.mem_cons.1 hb with rfl|hb
  ·decide
  ·exact zh (h.pd b hb)
theorem ED (h:bC s=0):ij s=true:=by
 have:dC s=true:=by
  unfold bC at h
  split at h
  ·cases h
  ·split at h
   ·assumption
   ·cases h
 rw[yz]at this
 unfold ij
 rw[List.all_eq_true]
 intro b hb
 have:=this b hb
 simp only[decide_eq_true_eq]
 omega
theorem MY (hw: ∀b∈W,ay b=true):Lib.cut (W++46::P) [46]=(W,P,true):=by
 have hi:Lib.index (W++46::P) [46]=(W.length:Int):=by
  rcases jW (W++46::P) 46 with⟨_,h⟩|⟨a,r,h1,h2,h3⟩
  ·exact absurd rfl (h 46 (by simp))
  ·rw[h3]
   have hn: ∀b∈W,b≠46:=fun b hb e=>absurd (hw b hb) (by rw[e];decide)
   have: ∀(W a:List UInt8),(∀b∈W,b≠46)→(∀b∈a,b≠46)→W++46::P=a++46::r→a.length=W.length:=by
    intro W
    induction W with
    |nil=>
     intro a _ ha e
     cases a with
     |nil=>rfl
     |cons x a=>injection e with e _;exact absurd e.symm (ha x (by simp))
    |cons x W ih=>
     intro a hW ha e
     cases a with
     |nil=>injection e with e _;exact absurd e (hW x (by simp))
     |cons y a=>
      injection e with _ e
      simp only[List.length_cons]
      rw[ih a (fun b hb=>hW b (List.mem_cons_of_mem _ hb)) (fun b hb=>ha b (List.mem_cons_of_mem _ hb)) e]
   rw[this W a hn h2 h1]
 unfold Lib.cut
 rw[hi,if_pos (by omega)]
 have e1:((W.length:Int)).toNat=W.length:=by omega
 rw[e1,List.take_left' rfl,←List.drop_drop,List.drop_left' rfl]
 rfl
theorem yx {a:List UInt8}{b:Int}(hW:W.length≤1000)(hP:P.length≤1000)(hw: ∀b∈W,ay b=true)(h1: -999≤p)(h2:p≤999):
  pZ (ev E) (W++46::P) p a b μ=some (mF 0 (d8 W P p).1 (d8 W P p).2 μ):=by
 refine aO ?_
 have hl1:=mH (W++P)
 have hl2:=qA (br (W++P))
 rw[List.length_append]at hl1
 rw[Kg,Po (by simp;omega),MY hw]
 simp only[ad,ao,aa,aj,am,ah,ae,ak,aw,cond_true,cond_false,Bool.not_true,Bool.not_false,ar,au,aq]
 rw[bj (by omega),aw,Fg (by decide)]
 simp only[ad,ao,aa,aj,am,ah,ae,ak,aw,cond_true,cond_false,Bool.not_true,Bool.not_false,ar,au,aq]
 rw[show Lib.trimLeftB (W++P) 48=br (W++P)from rfl,D0 (by decide) (by omega)]
 simp only[ad,ao,aa,aj,am,ah,ae,ak,aw,cond_true,cond_false,Bool.not_true,Bool.not_false,ar,au,aq]
 rw[show Lib.trimRightB (br (W++P)) 48=bn (br (W++P))from rfl]
 unfold d8
 by_cases hz:bn (br (W++P))=[]
 ·rw[decide_eq_true hz,if_pos hz];rfl
 ·rw[decide_eq_false hz,if_neg hz,cond_false]
  have hG:Hz (ev E) (IntKind.wrap .i64 (p-(P.length:Int))) (br (W++P)) (bn (br (W++P))) a b μ=some (re 0 (bn (br (W++P))) (p-(P.length:Int)+((br (W++P)).length:Int) -((bn (br (W++P))).length:Int)) μ):=by
   refine aO ?_
   rw[KJ,bc (x:=p-(P.length:Int)) (by omega) (by omega),bc (x:=p-(P.length:Int)+((br (W++P)).length:Int)) (by omega) (by omega),bc (by omega) (by omega)]
  rw[hG,aa,Bs]
theorem Nz {a:List UInt8}{b:Int}(h:RealOK W P ty p):Mm (ev E) (aS W P ty p) a b μ=some (nY 0 (d8 W P p).1 (d8 W P p).2 μ):=by
 refine aO ?_
 obtain⟨hl1,hl2,hl3,hl4⟩:=lI h
 have q1:=h.p1
 have q2:=h.p2
 rw[Ni,PF (by omega) (by simp) (ED (wX h)) (by decide)]
 simp only[ad,ao,aa,aj,am,ah,ae,ak,aw,cond_true,cond_false,Bool.not_true,Bool.not_false,ar,au,aq]
 have hq:aS W P ty p=(W++46::P)++cz ty p:=by unfold aS;simp
 have hql:(W++46::P).length=W.length+1+P.length:=by simp;omega
 have key : ∀ L : UInt8, (L = 69 ∨ L = 68) → aS W P ty p = (W ++ 46 :: P) ++ L :: Lib.itoa p → (cond (decide ((0 : Int) ≤ Lib.indexAny (aS W P ty p) [69, 68])) (
   opt (bJ (aS W P ty p) (IntKind.wrap .i64 (Lib.indexAny (aS W P ty p) [69,68]+(1:Int))) ((aS W P ty p).length:Int)) fun s16=>
   callK ((ev E).call 45 [LV.str s16] μ) (fun v17 μ18 =>
   opt (aR v17) fun xs21=>
   opt (aA xs21) fun q22=>
   opt (aE .i64 q22.1) fun n23=>
   opt (aA q22.2) fun q24=>
   opt (de q24.1) fun c25=>
   opt (aM q24.2) fun u26=>
   opt (bJ (aS W P ty p) (0:Int) (Lib.indexAny (aS W P ty p) [69,68])) fun s27=>
   opt (pZ (ev E) s27 n23 a b μ18) (kS (ev E) H25 [] [(2,0),(3,0)])) (fun v20 μ19=>
   some (sX v20 μ19))) (
   opt (pZ (ev E) (aS W P ty p) (0:Int) a b μ) (kS (ev E) H25 [] [(2,0),(3,0)])))=some (nY 0 (d8 W P p).1 (d8 W P p).2 μ):=by
  intro L hL hs
  have hi:Lib.indexAny (aS W P ty p) [69,68]=((W++46::P).length:Int):=by
   rw[hs]
   exact Jk _ _ _ _ (w6 h) (by rcases hL with rfl|rfl<;>decide)
  have hsl:(aS W P ty p).length=(W++46::P).length+1+(Lib.itoa p).length:=by rw[hs];simp;omega
  rw[hi,decide_eq_true (by omega),cond_true,bV (by omega)]
  have c1:bJ (aS W P ty p) (((W++46::P).length+1:Nat):Int) ((aS W P ty p).length:Int)=some (Lib.itoa p):=by
   have hd:(aS W P ty p).drop ((W++46::P).length+1)=Lib.itoa p:=by rw[hs,←List.drop_drop,List.drop_left' rfl];rfl
   rw[gp (by omega),hd]
  have c2:bJ (aS W P ty p) (0:Int) ((W++46::P).length:Int)=some (W++46::P):=by
   have e0:((0:Nat):Int)=0:=rfl
   rw[←e0,dz (Nat.zero_le _) (by omega),List.drop_zero,Nat.sub_zero,hs,List.take_left' rfl]
  rw[c1,aa,t7 (by omega),lM,Iz q1 q2]
  simp only[ad,ao,aa,aj,am,ah,ae,ak,aw,cond_true,cond_false,Bool.not_true,Bool.not_false,ar,au,aq,iQ]
  rw[c2,aa,yx (by omega) (by omega) h.wd q1 q2,aa,sC]
 by_cases ht:ty=2
 ·exact key 68 (Or.inr rfl) (by rw[hq];unfold cz;rw[if_pos ht];rfl)
 ·by_cases hp:p=0
  ·have hs:aS W P ty p=W++46::P:=by rw[hq];unfold cz;rw[if_neg ht,if_neg (by simp[hp])];simp
   have hi:Lib.indexAny (aS W P ty p) [69,68]= -1:=by rw[hs];exact AF _ _ (w6 h)
   rw[hi,show decide ((0:Int)≤ -1)=false from rfl,cond_false,hs]
   have:=yx (μ:=μ) (W:=W) (P:=P) (p:=p) (a:=a) (b:=b) (by omega) (by omega) h.wd q1 q2
   rw[hp]at this ⊢
   rw[this,aa,sC]
  ·exact key 69 (Or.inl rfl) (by rw[hq];unfold cz;rw[if_neg ht,if_pos hp];rfl)
theorem GL (hs:s.length≤200000)(h:(gf s).2≠0):(ev E).call 25 [LV.str s] μ=some (.ret (.ltup [.cv (CV.agg [CV.str [],CV.int .i64 0]),LV.int .i64 (gf s).2]) μ):=by
 refine aK ?_
 rw[Kl,E5 hs]
 simp only[ad,ao,aa,aj,am,ah,ae,ak,aw,cond_true,cond_false,Bool.not_true,Bool.not_false,ar,au,aq]
 rw[decide_eq_false h]
 rfl
theorem Hj (hs:s.length≤200000)(h:gf s=(0,0)):(ev E).call 25 [LV.str s] μ=some (.ret (.ltup [.cv (CV.agg [CV.str s,CV.int .i64 0]),LV.int .i64 0]) μ):=by
 refine aK ?_
 rw[Kl,E5 hs,h]
 simp only[ad,ao,aa,aj,am,ah,ae,ak,aw,cond_true,cond_false,Bool.not_true,Bool.not_false,ar,au,aq,decide_true]
 have hG:D8 (ev E) s 0 [] 0 μ=some (l7 0 s 0 μ):=by
  refine aO ?_
  rw[Dh]
  rfl
 rw[hG,aa,u2]
theorem vg (h:RealOK W P ty p):(ev E).call 25 [LV.str (aS W P ty p)] μ=some (.ret (.ltup [.cv (CV.agg [CV.str (d8 W P p).1,CV.int .i64 (d8 W P p).2]),LV.int .i64 0]) μ):=by
 obtain⟨hl1,hl2,hl3,hl4⟩:=lI h
 refine aK ?_
 rw[Kl,E5 (by omega),JP h]
 simp only[ad,ao,aa,aj,am,ah,ae,ak,aw,cond_true,cond_false,Bool.not_true,Bool.not_false,ar,au,aq,decide_true]
 have hG:D8 (ev E) (aS W P ty p) ty [] 0 μ=some (l7 0 (d8 W P p).1 (d8 W P p).2 μ):=by
  refine aO ?_
  rw[Dh,decide_eq_false (by rcases h.ty with rfl|rfl<;>decide),cond_false,Nz h,aa,F0]
 rw[hG,aa,u2]
end
end
end Go.Abs
set_option linter.unusedVariables false
set_option linter.unusedSimpArgs false
set_option maxRecDepth 100000
namespace Go.Abs
open Go Go.Proofs
section
variable {μ:Mu}{s:List UInt8}
theorem KC {c:UInt8}(h:ay c=true):IntKind.wrap .i64 (IntKind.wrap .u8 ((c.toNat:Int) -48))=((c.toNat-48:Nat):Int):=by
 have:=bN.1 h
 rw[xH (by omega) (by omega),bc (by omega) (by omega)]
 omega
theorem xm {l:List UInt8}{j:Nat}(h:j<l.length):l.take (j+1)=l.take j++[l[j]]:=by
 rw[List.take_succ,List.getElem?_eq_getElem h]
 rfl
theorem Ow {sg:Int}{D:List UInt8}(hsg:sg=1∨sg= -1)(hd: ∀b∈D,ay b=true)(hl:D.length≤3): ∀(k j:Nat),j+k=D.length→
  Fy (ev E) sg D (sg*(valD 0 (D.take j):Nat)) (D.length:Int) (j:Int) μ=some (tM (sg*(valD 0 D:Nat)) μ):=by
 intro k
 induction k with
 |zero=>
  intro j hj
  refine bb ?_
  rw[Cu,dN (by omega),cond_false,List.take_of_length_le (by omega)]
 |succ k ih=>
  intro j hj
  refine bb ?_
  have hlt:j<D.length:=by omega
  have hdj:ay D[j]=true:=hd _ (List.getElem_mem hlt)
  have hb:=(dh (D.take j) 0 (fun b hb=>hd b (List.mem_of_mem_take hb))).2
  have hp:10^(D.take j).length≤10^3:=Nat.pow_le_pow_right (by omega) (by simp;omega)
  have hdd:=bN.1 hdj
  have hG:IG (ev E) sg D (sg*(valD 0 (D.take j):Nat)) (j:Int) (D.length:Int) (j:Int) μ=some (rp sg D (sg*(valD 0 (D.take (j+1)):Nat)) (D.length:Int) (j:Int) μ):=by
   refine aO ?_
   rw[LN,bH hlt,aa,KC hdj]
   have hv:valD 0 (D.take (j+1))=valD 0 (D.take j)*10+(D[j].toNat-48):=by rw[xm hlt,te]
   rw[hv]
   have e:IntKind.wrap .i64 (IntKind.wrap .i64 (10*(sg*((valD 0 (D.take j):Nat):Int)))+IntKind.wrap .i64 (sg*((D[j].toNat-48:Nat):Int)))=sg*((valD 0 (D.take j)*10+(D[j].toNat-48):Nat):Int):=by
    rcases hsg with rfl|rfl
    ·rw[bc (x:=10*(1*((valD 0 (D.take j):Nat):Int))) (by omega) (by omega),bc (x:=1*((D[j].toNat-48:Nat):Int)) (by omega) (by omega),bc (by omega) (by omega)]
     omega
    ·rw[bc (x:=10*(-1*((valD 0 (D.take j):Nat):Int))) (by omega) (by omega),bc (x:= -1*((D[j].toNat-48:Nat):Int)) (by omega) (by omega),bc (by omega) (by omega)]
     omega
   rw[e]
  rw[Cu,dg hlt,cond_true,bH hlt,aa,Oh]
  simp only[ad,ao,aa,aj,am,ah,ae,ak,aw,cond_true,cond_false,Bool.not_true,Bool.not_false,ar,au,aq]
  rw[hdj,Bool.not_true,cond_false,hG,aa,BF,bV (by omega),ih (j+1) (by omega)]
theorem P4 {p:Int}(h1: -999≤p)(h2:p≤999):(ev E).call 68 [LV.str (Lib.itoa p),LV.int .i64 3] μ=some (.ret (.ltup [LV.int .i64 p,LV.bool true]) μ):=by
 refine aK ?_
 have key: ∀(sg:Int) (m:Nat) (a:List UInt8),(sg=1∨sg= -1)→m≤999→(m=0→a.length=1)→
   xB (ev E) a 3 sg (Lib.decDigits m) μ=some (lD (sg*(m:Int)) true μ):=by
  intro sg m a hsg hm ha
  refine aO ?_
  have hl:=gq 3 m (by omega) (by omega)
  obtain⟨c,r,hcr⟩: ∃c r,Lib.decDigits m=c::r:=by
   cases h:Lib.decDigits m with
   |nil=>exact absurd h (kF m)
   |cons c r=>exact⟨c,r,rfl⟩
  have h0:aX (Lib.decDigits m) 0=some c:=by rw[hcr];rfl
  have hG:Gx (ev E) sg (Lib.decDigits m) μ=some (tz (sg*(m:Int)) true μ):=by
   refine aO ?_
   have:=Ow (μ:=μ) hsg (gV m) hl (Lib.decDigits m).length 0 (by omega)
   have e0:((0:Nat):Int)=0:=rfl
   rw[List.take_zero,gE,e0,Int.mul_zero,iL]at this
   rw[MK,this,aa,FF]
  have hl1:1≤(Lib.decDigits m).length:=by rw[hcr];simp
  rw[M3,o6]
  simp only[ad,ao,aa,aj,am,ah,ae,ak,aw,cond_true,cond_false,Bool.not_true,Bool.not_false,ar,au,aq]
  rw [decide_eq_true (by omega : (1 : Int) ≤ ((Lib.decDigits m).length : Int)), decide_eq_true (by omega : ((Lib.decDigits m).length : Int) ≤ 3), Bool.and_self, Bool.not_true, cond_false, h0, aa, hG, aa, FI,
   show decide ((c.toNat:Int)=48)=decide (c=48)from bG (k:=48) (by omega)]
  by_cases hc:c=48
  ·have hm0:m=0:=by
    rcases tl m with h|⟨x,y,h,hx⟩
    ·rw[hcr]at h
     simp only[List.length_cons]at h
     have hr:r=[]:=List.eq_nil_of_length_eq_zero (by omega)
     have:=iL m
     rw[hcr,hr,hc]at this
     exact this.symm
    ·rw[hcr]at h
     injection h with h _
     exact absurd (h▸hc) hx
   rw[decide_eq_true hc,cond_true,decide_eq_false (by rw[ha hm0];decide)]
   rfl
  ·rw[decide_eq_false hc];rfl
 rw[QQ]
 rcases lq p with⟨m,hm,hi⟩|⟨m,hm1,hm,hi⟩
 ·obtain⟨c,r,hcr⟩: ∃c r,Lib.decDigits m=c::r:=by
   cases h:Lib.decDigits m with
   |nil=>exact absurd h (kF m)
   |cons c r=>exact⟨c,r,rfl⟩
  have hcd:ay c=true:=gV m c (by rw[hcr];simp)
  have h45:decide ((c.toNat:Int)=45)=false:=by
   have:=bN.1 hcd
   exact decide_eq_false (by omega)
  have h0:aX (Lib.decDigits m) 0=some c:=by rw[hcr];rfl
  rw[hi,decide_eq_false (kF m),Bool.not_false,cond_true,h0,aa,h45,cond_false,key 1 m _ (Or.inl rfl) (by omega) (fun h=>by rw[h,iR (by omega)];rfl),aa,uw,Int.one_mul,←hm]
 ·have h0:aX (45::Lib.decDigits m) 0=some 45:=rfl
  have e1:((1:Nat):Int)=1:=rfl
  have hc:bJ (45::Lib.decDigits m) (1:Int) ((45::Lib.decDigits m).length:Int)=some (Lib.decDigits m):=by
   rw[←e1,gp (by simp)];rfl
  rw [hi, show decide (45 :: Lib.decDigits m = []) = false from by simp, Bool.not_false, cond_true, h0, aa, show decide (((45 : UInt8).toNat : Int) = 45) = true from rfl, cond_true, hc, aa,
   key (-1) m _ (Or.inr rfl) (by omega) (fun h=>by omega),aa,uw,hm]
  simp
section
variable {W P:List UInt8}{ty p:Int}{a:List UInt8}{b:Int}
theorem tI: ∀(v:List UInt8) (i:Nat) (acc r:List UInt8) (ex pt:Int) (st:St),s.length≤1000→s.drop i=v++r→(∀x∈v,ay x=true)→acc.length≤i→
  iq (ev E) s (acc++v) ex pt ((i+v.length:Nat):Int) a b μ=some st→iq (ev E) s acc ex pt (i:Int) a b μ=some st
 |[],i,acc,r,ex,pt,st,hs,hd,hv,ha,h=>by simpa using h
 |c::v,i,acc,r,ex,pt,st,hs,hd,hv,ha,h=>by
  have hlt:i<s.length:=by
   rcases Nat.lt_or_ge i s.length with h1|h1
   ·exact h1
   ·rw[List.drop_eq_nil_of_le h1]at hd;cases hd
  have hd':=List.drop_eq_getElem_cons hlt
  rw[hd]at hd'
  injection hd' with e1 e2
  have hcd:ay c=true:=hv c (by simp)
  have h46:decide ((c.toNat:Int)=46)=false:=by
   have:=bN.1 hcd
   exact decide_eq_false (by omega)
  refine bb ?_
  rw[pj,dg hlt,cond_true,bH hlt,←e1,aa,h46,cond_false,aa,rG]
  simp only[ad,ao,aa,aj,am,ah,ae,ak,aw,cond_true,cond_false,Bool.not_true,Bool.not_false,ar,au,aq]
  rw[hcd,cond_true,bV (by omega),Fx hlt,aa,←e1,bj (by simp;omega),aw]
  refine tI v (i+1) (acc++[c]) r ex pt st hs e2.symm (fun x hx=>hv x (List.mem_cons_of_mem _ hx)) (by simp;omega) ?_
  have e3:i+1+v.length=i+(c::v).length:=by simp;omega
  rw[e3,List.append_assoc]
  exact h
theorem Kk {i:Nat}{acc r:List UInt8}{ex pt:Int}{st:St}(hs:s.length≤1000)(hd:s.drop i=46::r)(h:iq (ev E) s acc ex (i:Int) ((i+1:Nat):Int) a b μ=some st):iq (ev E) s acc ex pt (i:Int) a b μ=some st:=by
 have hlt:i<s.length:=by
  rcases Nat.lt_or_ge i s.length with h1|h1
  ·exact h1
  ·rw[List.drop_eq_nil_of_le h1]at hd;cases hd
 have hd':=List.drop_eq_getElem_cons hlt
 rw[hd]at hd'
 injection hd' with e1 e2
 refine bb ?_
 rw[pj,dg hlt,cond_true,bH hlt,←e1,aa,show decide (((46:UInt8).toNat:Int)=46)=true from rfl,cond_true,bV (by omega),h]
theorem KX {i:Nat}{acc:List UInt8}{ex pt:Int}(hd:s.drop i=[]):iq (ev E) s acc ex pt (i:Int) a b μ=some (iJ acc ex pt a b μ):=by
 have:s.length≤i:=by
  rcases Nat.lt_or_ge i s.length with h1|h1
  ·rw[List.drop_eq_getElem_cons h1]at hd;cases hd
  ·exact h1
 refine bb ?_
 rw[pj,dN this,cond_false]
theorem yp {i:Nat}{acc:List UInt8}{ex pt:Int}{L:UInt8}(hs:s.length≤1000)(hL:L=69∨L=68)(hd:s.drop i=L::Lib.itoa p)(h1: -999≤p)(h2:p≤999):iq (ev E) s acc ex pt (i:Int) a b μ=some (iJ acc p pt a b μ):=by
 have hlt:i<s.length:=by
  rcases Nat.lt_or_ge i s.length with h1|h1
  ·exact h1
  ·rw[List.drop_eq_nil_of_le h1]at hd;cases hd
 have hd':=List.drop_eq_getElem_cons hlt
 rw[hd]at hd'
 injection hd' with e1 e2
 have h46:decide ((L.toNat:Int)=46)=false:=by rcases hL with rfl|rfl<;>decide
 have hD:ay L=false:=by rcases hL with rfl|rfl<;>decide
 refine bb ?_
 rw[pj,dg hlt,cond_true,bH hlt,←e1,aa,h46,cond_false,aa,rG]
 simp only[ad,ao,aa,aj,am,ah,ae,ak,aw,cond_true,cond_false,Bool.not_true,Bool.not_false,ar,au,aq]
 rw[hD,cond_false,bV (by omega),gp (by omega),aa,←e2,P4 h1 h2]
 simp only[ad,ao,aa,aj,am,ah,ae,ak,aw,cond_true,cond_false,Bool.not_true,Bool.not_false,ar,au,aq]
theorem Q1 (h:RealOK W P ty p):iq (ev E) (aS W P ty p) [] 0 0 0 a b μ=some (iJ (W++P) p (W.length:Int) a b μ):=by
 obtain⟨hl1,hl2,hl3,hl4⟩:=lI h
 have e0:((0:Nat):Int)=0:=rfl
 have hd1:(aS W P ty p).drop (0+W.length)=46::(P++cz ty p):=by unfold aS;rw[Nat.zero_add,List.drop_left' rfl]
 have hd2:(aS W P ty p).drop (0+W.length+1)=P++cz ty p:=by rw[←List.drop_drop,hd1];rfl
 have hd3:(aS W P ty p).drop (0+W.length+1+P.length)=cz ty p:=by rw[←List.drop_drop,hd2,List.drop_left' rfl]
 refine tI W 0 [] (46::(P++cz ty p)) 0 0 _ (by omega) rfl h.wd (by simp) ?_
 refine Kk (by omega) hd1 ?_
 rw[Nat.zero_add]at hd2 hd3 ⊢
 refine tI P (W.length+1) ([]++W) (cz ty p) 0 _ _ (by omega) hd2 h.pd (by simp) ?_
 rw[List.nil_append]
 by_cases ht:ty=2
 ·exact yp (L:=68) (by omega) (Or.inr rfl) (by rw[hd3];unfold cz;rw[if_pos ht];rfl) h.p1 h.p2
 ·by_cases hp:p=0
  ·have:=KX (μ:=μ) (s:=aS W P ty p) (i:=W.length+1+P.length) (acc:=W++P) (ex:=0) (pt:=(W.length:Int)) (a:=a) (b:=b) (by rw[hd3];unfold cz;rw[if_neg ht,if_neg (by simp[hp])])
   rw[hp]at this ⊢
   exact this
  ·exact yp (L:=69) (by omega) (Or.inl rfl) (by rw[hd3];unfold cz;rw[if_neg ht,if_pos hp];rfl) h.p1 h.p2
theorem ub (l:List UInt8):bn (l++[48])=bn l:=by
 unfold bn Lib.trimRightB
 rw[List.reverse_append]
 simp[List.dropWhile_cons]
theorem j6 {l:List UInt8}{c:UInt8}(h:c≠48):bn (l++[c])=l++[c]:=by
 unfold bn Lib.trimRightB
 rw[List.reverse_append]
 simp[List.dropWhile_cons,h]
theorem Eh {c:UInt8}{r:List UInt8}(h:c≠48): ∃q,bn (c::r)=c::q:=by
 unfold bn Lib.trimRightB
 rw[List.reverse_cons]
 have: ∀(l:List UInt8),∃q,(l++[c]).dropWhile (· ==(48:UInt8))=q++[c]:=by
  intro l
  induction l with
  |nil=>exact⟨[],by simp[List.dropWhile_cons,h]⟩
  |cons x l ih=>
   rw[List.cons_append,List.dropWhile_cons]
   split
   ·exact ih
   ·exact⟨x::l,rfl⟩
 obtain⟨q,hq⟩:=this r.reverse
 rw[hq]
 exact⟨q.reverse,by simp⟩
theorem Hr: ∀(n:Nat) (l:List UInt8) (e:Int),l.length=n→n≤1000→ -100000≤e→e+n≤100000→(∃c r,l=c::r∧c≠48)→
  uP (ev E) l e a b μ=some (kw (bn l) (e+(l.length:Int) -((bn l).length:Int)) a b μ)
 |0,l,e,hl,_,_,_,h=>by obtain⟨c,r,rfl,_⟩:=h;simp at hl
 |n+1,l,e,hl,hn,he1,he2,h=>by
  obtain⟨c,r,rfl,hc⟩:=h
  rcases List.eq_nil_or_concat (c::r)with h0|⟨m,x,hm⟩
  ·cases h0
  ·have hx:((c::r).length:Int) -1=((m.length:Nat):Int):=by rw[hm];simp
   have hmn:m.length=n:=by
    have:=congrArg List.length hm
    rw[hl]at this
    simp at this
    omega
   have hne:decide (c::r=[48])=false:=by
    apply decide_eq_false
    intro e
    injection e with e _
    exact hc e
   have hg:(c::r)[m.length]? =some x:=by rw[hm];simp
   refine bb ?_
   rw[zI,hne,Bool.not_false,cond_true,bc (x:=((c::r).length:Int) -1) (by omega) (by omega),hx,gu,hg,aa,show decide ((x.toNat:Int)=48)=decide (x=48)from bG (k:=48) (by omega)]
   by_cases hx48:x=48
   ·subst hx48
    have e0:((0:Nat):Int)=0:=rfl
    have hcut:bJ (c::r) (0:Int) ((m.length:Nat):Int)=some m:=by
     rw[←e0,dz (Nat.zero_le _) (by omega),List.drop_zero,Nat.sub_zero,hm]
     simp
    rw[decide_eq_true rfl,cond_true,hcut,aa,bc (by omega) (by omega)]
    have hm0: ∃c' r',m=c'::r'∧c'≠48:=by
     cases m with
     |nil=>injection hm with h1 _;exact absurd h1 hc
     |cons y t=>injection hm with h1 _;exact⟨y,t,rfl,h1▸hc⟩
    rw[Hr n m (e+1) hmn (by omega) (by omega) (by omega) hm0]
    have ht:bn (c::r)=bn m:=by rw[hm,List.concat_eq_append,ub]
    rw[ht]
    congr 2
    omega
   ·have ht:bn (c::r)=c::r:=by rw[hm,List.concat_eq_append,j6 hx48]
    rw[decide_eq_false hx48,cond_false,ht]
    congr 2
    omega
theorem OO {e:Int}:uP (ev E) [48] e a b μ=some (kw [48] e a b μ):=by
 refine bb ?_
 rw[zI]
 rfl
theorem EX {l:List UInt8}{c:UInt8}{r:List UInt8}(h:br l=c::r):c≠48:=by
 unfold br Lib.trimLeftB at h
 have:=List.head_dropWhile_not (· ==(48:UInt8)) (l:=l) (by rw[h];simp)
 simp only[h]at this
 simpa using this
theorem MW (h:RealOK W P ty p):ES (ev E) (aS W P ty p) a b μ=some (pb 0 (d8 W P p).1 (d8 W P p).2 μ):=by
 obtain⟨hl1,hl2,hl3,hl4⟩:=lI h
 have q1:=h.p1
 have q2:=h.p2
 refine aO ?_
 have hWP:W++P≠[]:=by
  intro e
  exact lB h.wl (List.append_eq_nil_iff.1 e).1
 rw[NI,Q1 h,aa,A0,Ef (by simp;omega)]
 simp only[ad,ao,aa,aj,am,ah,ae,ak,aw,cond_true,cond_false,Bool.not_true,Bool.not_false,ar,au,aq]
 have hz:bx (W++P)=aU (br (W++P)):=lj _ hWP
 have hw1:IntKind.wrap .i64 (((W++P).length:Int) -(W.length:Int))=(P.length:Int):=by
  rw[bc (by simp;omega) (by simp;omega)];simp;omega
 rw[hw1,bc (x:=p-(P.length:Int)) (by omega) (by omega),hz]
 have hlen:=mH (W++P)
 rw[List.length_append]at hlen
 unfold d8 aU
 cases hd:br (W++P)with
 |nil=>
  rw[if_pos rfl,OO,aa,sM]
  rfl
 |cons c r=>
  have hc:c≠48:=EX hd
  obtain⟨q,hq⟩:=Eh (c:=c) (r:=r) hc
  rw[hd]at hlen
  rw[if_neg (by simp),Hr (c::r).length (c::r) _ rfl (by omega) (by omega) (by omega) ⟨c,r,rfl,hc⟩,aa,sM,if_neg (by rw[hq];simp)]
  have:decide (bn (c::r)=[48])=false:=by
   apply decide_eq_false
   rw[hq]
   intro e
   injection e with e _
   exact hc e
  rw[this]
  rfl
theorem Jt (hs:s.length≤200000)(h:(gf s).2≠0):(ev E).call 27 [LV.str s] μ=some (.ret (.ltup [.cv (CV.agg [CV.str [],CV.int .i64 0]),LV.int .i64 (gf s).2]) μ):=by
 refine aK ?_
 rw[LA,j9 hs,←fe]
 simp only[ad,ao,aa,aj,am,ah,ae,ak,aw,cond_true,cond_false,Bool.not_true,Bool.not_false,ar,au,aq]
 unfold gf at h ⊢
 rcases sB (s:=s)with h0|h0|h0
 ·simp[h0]at h
 ·simp only[h0,ne_eq,not_true_eq_false,if_false]at h ⊢
  have h1:bm 1 s=3:=by
   rcases lp (s:=s) (k:=1) (Or.inl rfl)with h1|h1
   ·simp[h1]at h
   ·exact h1
  have h2:bm 2 s=3:=by
   rcases lp (s:=s) (k:=2) (Or.inr rfl)with h2|h2
   ·simp[h1,h2]at h
   ·exact h2
  simp only[h1,h2,not_true_eq_false,if_false]
  have hG6:Gn (ev E) s [] 0 [] 0 μ=some (mj 3 [] 0 μ):=by
   refine aO ?_
   rw[CT,j9 hs,←fe,h1]
   simp only[ad,ao,aa,aj,am,ah,ae,ak,aw,cond_true,cond_false,Bool.not_true,Bool.not_false,ar,au,aq]
   rw[j9 hs,←fe,h2]
   rfl
  have hG:xL (ev E) s [] 0 [] 0 μ=some (jL 3 [] 0 μ):=by
   refine aO ?_
   rw[vw,j9 hs,←fe,h0]
   simp only[ad,ao,aa,aj,am,ah,ae,ak,aw,cond_true,cond_false,Bool.not_true,Bool.not_false,ar,au,aq]
   rw[hG6,aa,uu]
   rfl
  rw[show decide ((3:Int)=28)=false from rfl,cond_false,hG,aa,pe]
 ·simp only[h0]
  rfl
theorem Jr (hs:s.length≤200000)(h:bm 0 s=0):(ev E).call 27 [LV.str s] μ=some (.ret (.ltup [.cv (CV.agg [CV.str s,CV.int .i64 0]),LV.int .i64 0]) μ):=by
 refine aK ?_
 rw[LA,j9 hs,←fe,h]
 simp only[ad,ao,aa,aj,am,ah,ae,ak,aw,cond_true,cond_false,Bool.not_true,Bool.not_false,ar,au,aq]
 have hG:xL (ev E) s [] 0 [] 0 μ=some (jL 0 s 0 μ):=by
  refine aO ?_
  rw[vw,j9 hs,←fe,h]
  rfl
 rw[show decide ((0:Int)=28)=false from rfl,cond_false,hG,aa,pe]
theorem EW (h:RealOK W P ty p):(ev E).call 27 [LV.str (aS W P ty p)] μ=some (.ret (.ltup [.cv (CV.agg [CV.str (d8 W P p).1,CV.int .i64 (d8 W P p).2]),LV.int .i64 0]) μ):=by
 obtain⟨hl1,hl2,hl3,hl4⟩:=lI h
 refine aK ?_
 rw[LA,j9 (by omega),←fe,FR h]
 simp only[ad,ao,aa,aj,am,ah,ae,ak,aw,cond_true,cond_false,Bool.not_true,Bool.not_false,ar,au,aq]
 have hG6:Gn (ev E) (aS W P ty p) [] 0 [] 0 μ=some (mj 0 (d8 W P p).1 (d8 W P p).2 μ):=by
  refine aO ?_
  rw[CT,j9 (by omega),←fe]
  simp only[ad,ao,aa,aj,am,ah,ae,ak,aw,cond_true,cond_false,Bool.not_true,Bool.not_false,ar,au,aq]
  rw[j9 (by omega),←fe]
  simp only[ad,ao,aa,aj,am,ah,ae,ak,aw,cond_true,cond_false,Bool.not_true,Bool.not_false,ar,au,aq]
  rw[MW h,aa,Gi]
  have hc:=iu h
  rcases h.ty with rfl|rfl
  ·rw[hc];rfl
  ·rw[hc]
   cases decide (bm 1 (aS W P 2 p)=0)<;>rfl
 have hG:xL (ev E) (aS W P ty p) [] 0 [] 0 μ=some (jL 0 (d8 W P p).1 (d8 W P p).2 μ):=by
  refine aO ?_
  rw[vw,j9 (by omega),←fe,FR h]
  simp only[ad,ao,aa,aj,am,ah,ae,ak,aw,cond_true,cond_false,Bool.not_true,Bool.not_false,ar,au,aq]
  rw[hG6,aa,uu]
  rfl
 rw[show decide ((3:Int)=28)=false from rfl,cond_false,hG,aa,pe]
end
end
end Go.Abs
set_option linter.unusedVariables false
set_option linter.unusedSimpArgs false
set_option maxRecDepth 100000
namespace Go.Abs
open Go Go.Proofs
section
variable {μ:Mu}{d:List UInt8}
def k8 (d:List UInt8):Bool:=decide (d=[48])||(eI (fun c=> !decide (c=48)) d&&eI (fun c=> !decide (c=48)) d.reverse)
def cQ (d:List UInt8):Bool:= !decide (d=[])&&(decide (d.length≤30)&&(d.all ay&&k8 d))
theorem M6 {c:UInt8}{r:List UInt8}:aX (c::r) (IntKind.wrap .i64 (((c::r).length:Int) -1))=(c::r).reverse.head?∨1000000<(c::r).length:=by
 by_cases h:1000000<(c::r).length
 ·exact Or.inr h
 ·left
  rw[bc (by omega) (by omega)]
  have e:((c::r).length:Int) -1=((r.length:Nat):Int):=by simp
  rw[e,gu,List.head?_reverse,List.getLast?_eq_getElem?]
  simp
theorem yW {c:UInt8}{r:List UInt8}(hl:(c::r).length≤1000000): ∃x,aX (c::r) (IntKind.wrap .i64 (((c::r).length:Int) -1))=some x∧eI (fun c=> !decide (c=48)) (c::r).reverse= !decide (x=48):=by
 rcases M6 (c:=c) (r:=r)with h|h
 ·rw[h]
  cases hq:(c::r).reverse with
  |nil=>simp at hq
  |cons x t=>exact⟨x,rfl,rfl⟩
 ·omega
theorem PE:(ev E).call 64 [LV.str d] μ=some (.ret (LV.bool (cQ d)) μ):=by
 refine aK ?_
 rw[QK,Fe (g:=112) (p:=uS) rfl,wD]
 simp only[ad,ao,aa,aj,am,ah,ae,ak,aw,cond_true,cond_false,Bool.not_true,Bool.not_false,ar,au,aq]
 have e4:(d.any fun b=> !ay b)= !d.all ay:=by rw[←vE (p:=ay),Bool.not_not]
 rw[e4]
 unfold cQ
 cases d with
 |nil=>rfl
 |cons c r=>
  rw[show decide (c::r=[])=false from by simp,cond_false,Bool.not_false,Bool.true_and]
  by_cases hl:(c::r).length≤30
  ·rw[decide_eq_true hl,decide_eq_false (by omega: ¬(30:Int)<((c::r).length:Int)),cond_false,Bool.true_and]
   cases hd:(c::r).all ay with
   |false=>rfl
   |true=>
    rw[Bool.not_true,cond_false,Bool.true_and]
    have hG:LZ (ev E) (c::r) μ=some (lP (k8 (c::r)) μ):=by
     refine aO ?_
     obtain⟨x,hx1,hx2⟩:=yW (c:=c) (r:=r) (by omega)
     rw[Nk,show aX (c::r) 0=some c from rfl,aa,hx1,aa,show decide ((c.toNat:Int)=48)=decide (c=48)from bG (k:=48) (by omega),show decide ((x.toNat:Int)=48)=decide (x=48)from bG (k:=48) (by omega)]
     unfold k8
     rw[hx2,show eI (fun c=> !decide (c=48)) (c::r)= !decide (c=48)from rfl]
     cases decide (c::r=[48])<;>cases decide (c=48)<;>rfl
    rw[hG,aa,FN]
  ·rw[decide_eq_false hl,decide_eq_true (by omega:(30:Int)<((c::r).length:Int))]
   rfl
def pw (d:List UInt8)(e:Int):Int:=e+(d.length:Int) -1
def fh (k:Int)(d:List UInt8)(e:Int):List UInt8×Int:=
 if cQ d=true∧(d=[48]→e=0)then
  (if -1998≤e∧e≤999∧ -999≤pw d e∧pw d e≤999 then(aS (d.take 1) (aU (d.drop 1)) k (pw d e),0)else([],2))
 else([],3)
theorem mn {k e:Int}(h1:cQ d=true)(h2:d=[48]→e=0):fh k d e=(if -1998≤e∧e≤999∧ -999≤pw d e∧pw d e≤999 then aS (d.take 1) (aU (d.drop 1)) k (pw d e)else [],if -1998≤e∧e≤999∧ -999≤pw d e∧pw d e≤999 then 0 else 2):=by
 unfold fh
 rw[if_pos ⟨h1,h2⟩]
 split<;>rfl
theorem gH {k e:Int}(h: ¬(cQ d=true∧(d=[48]→e=0))):fh k d e=([],3):=by
 unfold fh
 rw[if_neg h]
theorem dL (h:cQ d=true):1≤d.length∧d.length≤30∧(∀b∈d,ay b=true)∧k8 d=true:=by
 unfold cQ at h
 simp only[Bool.and_eq_true,Bool.not_eq_true',decide_eq_false_iff_not,decide_eq_true_eq,List.all_eq_true]at h
 obtain⟨h1,h2,h3,h4⟩:=h
 exact⟨List.length_pos_iff.2 h1,h2,h3,h4⟩
theorem HJ (h:cQ d=true):bn (d.drop 1)=d.drop 1:=by
 obtain⟨h1,_,_,h4⟩:=dL h
 match d,h1 with
 |[c],_=>rfl
 |c::x::r,_=>
  show bn (x::r)=x::r
  unfold k8 at h4
  rw[Bool.or_eq_true,decide_eq_true_eq]at h4
  rcases h4 with h4|h4
  ·simp at h4
  ·rw[Bool.and_eq_true]at h4
   rcases List.eq_nil_or_concat (x::r)with h0|⟨m,y,hm⟩
   ·cases h0
   ·rw[List.concat_eq_append]at hm
    have hy:y≠48:=by
     have:=h4.2
     rw[hm,←List.cons_append,List.reverse_append]at this
     simpa[eI]using this
    rw[hm,j6 hy]
theorem uG (W P:List UInt8)(k p:Int):aS W P k p=(if k=2 then(((W++[46])++P)++([68]++Lib.itoa p))else if p≠0 then(((W++[46])++P)++([69]++Lib.itoa p))else((W++[46])++P)):=by
 unfold aS cz
 split
 ·simp
 ·split
  ·simp
  ·simp
theorem wu (h1:1≤d.length):bJ d (0:Int) (1:Int)=some (d.take 1)∧bJ d (1:Int) (d.length:Int)=some (d.drop 1):=by
 have e0:((0:Nat):Int)=0:=rfl
 have e1:((1:Nat):Int)=1:=rfl
 constructor
 ·rw[←e0,←e1,dz (by omega) h1,List.drop_zero]
 ·rw[←e1,gp h1]
theorem dv {n:Nat}(h:n≤1000):a6 n=true:=bj (by omega)
theorem KM {k e:Int}(hk:k=1∨k=2)(h:cQ d=true)(h1: -999≤pw d e)(h2:pw d e≤999):Ii (ev E) k (pw d e) d e μ=some (km (aS (d.take 1) (aU (d.drop 1)) k (pw d e)) 0 μ):=by
 obtain⟨f1,f2,f3,f4⟩:=dL h
 obtain⟨c1,c2⟩:=wu f1
 have hl:=Lib.itoa_length_le (pw d e) (by omega) (by omega)
 have hz:=eU (d.drop 1)
 have ht:(d.take 1).length=1:=by rw[List.length_take];omega
 have hd:(d.drop 1).length=d.length-1:=by simp
 refine aO ?_
 rw[Lk,c1,aa,dv (by simp;omega),aw,c2,aa,Iw (by omega),HJ h]
 simp only[ad,ao,aa,aj,am,ah,ae,ak,aw,cond_true,cond_false,Bool.not_true,Bool.not_false,ar,au,aq]
 rw[dv (by simp only[List.length_append,List.length_cons,List.length_nil];omega),aw,Gd (by omega) (by omega)]
 simp only[ad,ao,aa,aj,am,ah,ae,ak,aw,cond_true,cond_false,Bool.not_true,Bool.not_false,ar,au,aq]
 rw[dv (by simp;omega),aw,dv (by simp only[List.length_append,List.length_cons,List.length_nil];omega),aw,dv (by simp;omega),aw,dv (by simp only[List.length_append,List.length_cons,List.length_nil];omega),aw,uG]
 rcases hk with rfl|rfl
 ·by_cases hp:pw d e=0
  ·rw[decide_eq_true hp,if_neg (by decide),if_neg (by simp[hp])]
   rfl
  ·rw[decide_eq_false hp,if_neg (by decide),if_pos hp]
   rfl
 ·rfl
theorem NH {k e:Int}(hk:k=1∨k=2)(h:cQ d=true)(he: -9223372036854775808≤e)(he2:e≤9223372036854775807):Ez (ev E) k d e μ=some (l3 (if -1998≤e∧e≤999∧ -999≤pw d e∧pw d e≤999 then aS (d.take 1) (aU (d.drop 1)) k (pw d e)else []) (if -1998≤e∧e≤999∧ -999≤pw d e∧pw d e≤999 then 0 else 2) μ):=by
 obtain⟨f1,f2,f3,f4⟩:=dL h
 refine aO ?_
 rw[MN]
 by_cases h1:e< -1998
 ·rw[decide_eq_true h1,if_neg (by omega),if_neg (by omega)];rfl
 ·rw[decide_eq_false h1,cond_false]
  by_cases h2:999<e
  ·rw[decide_eq_true h2,if_neg (by omega),if_neg (by omega)];rfl
  ·rw[decide_eq_false h2,cond_false]
   have hw:IntKind.wrap .i64 (IntKind.wrap .i64 (e+(d.length:Int)) -1)=pw d e:=by
    rw[bc (x:=e+(d.length:Int)) (by omega) (by omega),bc (by omega) (by omega)];rfl
   have hG:LP (ev E) k d e μ=some (mh (if -1998≤e∧e≤999∧ -999≤pw d e∧pw d e≤999 then aS (d.take 1) (aU (d.drop 1)) k (pw d e)else []) (if -1998≤e∧e≤999∧ -999≤pw d e∧pw d e≤999 then 0 else 2) μ):=by
    refine aO ?_
    rw[MZ,hw]
    by_cases h3:pw d e< -999
    ·rw[decide_eq_true h3,if_neg (by omega),if_neg (by omega)];rfl
    ·rw[decide_eq_false h3,cond_false]
     by_cases h4:999<pw d e
     ·rw[decide_eq_true h4,if_neg (by omega),if_neg (by omega)];rfl
     ·rw[decide_eq_false h4,cond_false,KM hk h (by omega) (by omega),aa,Be,if_pos ⟨by omega,by omega,by omega,by omega⟩,if_pos ⟨by omega,by omega,by omega,by omega⟩]
   rw[hG,aa,Fw]
theorem Gl {k e:Int}(hk: ¬(k=1∨k=2)):(ev E).call 26 [LV.int .i64 k,LV.cv (CV.agg [CV.str d,CV.int .i64 e])] μ=some (.ret (.ltup [LV.str [],LV.int .i64 15]) μ):=by
 refine aK ?_
 rw[Oi,decide_eq_false (fun h=>hk (Or.inl h)),decide_eq_false (fun h=>hk (Or.inr h))]
 rfl
theorem P9 {k e:Int}(hk:k=1∨k=2)(he: -9223372036854775808≤e)(he2:e≤9223372036854775807):(ev E).call 26 [LV.int .i64 k,LV.cv (CV.agg [CV.str d,CV.int .i64 e])] μ=some (.ret (.ltup [LV.str (fh k d e).1,LV.int .i64 (fh k d e).2]) μ):=by
 refine aK ?_
 have hG:Ge (ev E) k d e μ=some (lN (fh k d e).1 (fh k d e).2 μ):=by
  refine aO ?_
  rw[MC,PE]
  simp only[ad,ao,aa,aj,am,ah,ae,ak,aw,cond_true,cond_false,Bool.not_true,Bool.not_false,ar,au,aq]
  cases h:cQ d with
  |false=>rw[gH (by rw[h];simp)];rfl
  |true=>
   rw[Bool.not_true,cond_false,NH hk h he he2,aa,Fa]
   by_cases h48:d=[48]
   ·rw[decide_eq_true h48,cond_true]
    by_cases h0:e=0
    ·rw[decide_eq_true h0,mn h (fun _=>h0)]
     rfl
    ·rw[decide_eq_false h0,gH (fun q=>h0 (q.2 h48))];rfl
   ·rw[decide_eq_false h48,mn h (fun q=>absurd q h48),cond_false]
 rw[Oi,hG]
 rcases hk with rfl|rfl
 ·rw[aa,vu];rfl
 ·rw[aa,vu];rfl
theorem NN {k e:Int}(hk:k=1∨k=2)(h:cQ d=true)(h1: -999≤pw d e)(h2:pw d e≤999)(he: -2000≤e)(he2:e≤2000):Md (ev E) k (d.length:Int) d e μ=some (oC (aS (d.take 1) (aU (d.drop 1)) k (pw d e)) 0 μ):=by
 obtain⟨f1,f2,f3,f4⟩:=dL h
 obtain⟨c1,c2⟩:=wu f1
 have hl:=Lib.itoa_length_le (pw d e) (by omega) (by omega)
 have hz:=eU (d.drop 1)
 have ht:(d.take 1).length=1:=by rw[List.length_take];omega
 have hd:(d.drop 1).length=d.length-1:=by simp
 have hw:IntKind.wrap .i64 (IntKind.wrap .i64 (e+(d.length:Int)) -1)=pw d e:=by
  rw[bc (x:=e+(d.length:Int)) (by omega) (by omega),bc (by omega) (by omega)];rfl
 refine aO ?_
 rw[ND,hw,c1,aa,dv (by simp;omega),aw,c2,aa,FM]
 simp only[ad,ao,aa,aj,am,ah,ae,ak,aw,cond_true,cond_false,Bool.not_true,Bool.not_false,ar,au,aq]
 rw[dv (by simp only[List.length_append,List.length_cons,List.length_nil];omega),aw,uG]
 have hbase:((d.take 1++[46])++aU (d.drop 1)).length≤40:=by simp only[List.length_append,List.length_cons,List.length_nil];omega
 rcases hk with rfl|rfl
 ·rw[if_neg (by decide),show decide ((1:Int)=2)=false from rfl,cond_false]
  by_cases hp:pw d e=0
  ·have hG:zE (ev E) (pw d e) ((d.take 1++[46])++aU (d.drop 1)) μ=some (kc ((d.take 1++[46])++aU (d.drop 1)) 0 μ):=by
    refine aO ?_
    rw[yd,decide_eq_true hp];rfl
   rw[hG,aa,sw,if_neg (by simp[hp])]
  ·have hG:zE (ev E) (pw d e) ((d.take 1++[46])++aU (d.drop 1)) μ=some (kc (((d.take 1++[46])++aU (d.drop 1))++([69]++Lib.itoa (pw d e))) 0 μ):=by
    refine aO ?_
    rw[yd,decide_eq_false hp,Bool.not_false,cond_true,dv (by simp only[List.length_append,List.length_cons,List.length_nil]at hbase ⊢; omega),aw,Gt (by omega) (by omega)]
    simp only[ad,ao,aa,aj,am,ah,ae,ak,aw,cond_true,cond_false,Bool.not_true,Bool.not_false,ar,au,aq]
    rw[dv (by simp only[List.length_append,List.length_cons,List.length_nil]at hbase ⊢; omega),aw,←List.append_assoc]
   rw[hG,aa,sw,if_pos hp]
 ·rw[if_pos rfl,show decide ((2:Int)=2)=true from rfl,cond_true,dv (by simp only[List.length_append,List.length_cons,List.length_nil]at hbase ⊢; omega),aw,Gt (by omega) (by omega)]
  simp only[ad,ao,aa,aj,am,ah,ae,ak,aw,cond_true,cond_false,Bool.not_true,Bool.not_false,ar,au,aq]
  rw[dv (by simp only[List.length_append,List.length_cons,List.length_nil]at hbase ⊢; omega),aw,←List.append_assoc]
theorem NS {k e:Int}(hk:k=1∨k=2)(h:cQ d=true)(he: -9223372036854775808≤e)(he2:e≤9223372036854775807):oo (ev E) k (d.length:Int) d e μ=some (lF (if -1998≤e∧e≤999∧ -999≤pw d e∧pw d e≤999 then aS (d.take 1) (aU (d.drop 1)) k (pw d e)else []) (if -1998≤e∧e≤999∧ -999≤pw d e∧pw d e≤999 then 0 else 2) μ):=by
 obtain⟨f1,f2,f3,f4⟩:=dL h
 have hpw:pw d e=e+(d.length:Int) -1:=rfl
 refine aO ?_
 rw[MM,o6]
 simp only[ad,ao,aa,aj,am,ah,ae,ak,aw,cond_true,cond_false,Bool.not_true,Bool.not_false,ar,au,aq]
 by_cases h1: -2000≤e∧e≤2000
 ·have hw:IntKind.wrap .i64 (IntKind.wrap .i64 (e+(d.length:Int)) -1)=pw d e:=by
   rw[bc (x:=e+(d.length:Int)) (by omega) (by omega),bc (by omega) (by omega)];rfl
  rw[decide_eq_true h1.1,decide_eq_true h1.2,hw,o6]
  simp only[ad,ao,aa,aj,am,ah,ae,ak,aw,cond_true,cond_false,Bool.not_true,Bool.not_false,ar,au,aq,Bool.and_self]
  by_cases h2: -999≤pw d e∧pw d e≤999
  ·rw[decide_eq_true h2.1,decide_eq_true h2.2,Bool.and_self,Bool.not_true,cond_false,NN hk h h2.1 h2.2 h1.1 h1.2,aa,FS,if_pos ⟨by omega,by omega,h2.1,h2.2⟩,if_pos ⟨by omega,by omega,h2.1,h2.2⟩]
  ·have:(decide (-999≤pw d e)&&decide (pw d e≤999))=false:=by
    rw[Bool.and_eq_false_iff,decide_eq_false_iff_not,decide_eq_false_iff_not];omega
   rw[this,if_neg (fun q=>h2 ⟨q.2.2.1,q.2.2.2⟩),if_neg (fun q=>h2 ⟨q.2.2.1,q.2.2.2⟩)]
   rfl
 ·have:(decide (-2000≤e)&&decide (e≤2000))=false:=by
   rw[Bool.and_eq_false_iff,decide_eq_false_iff_not,decide_eq_false_iff_not];omega
  rw[this,if_neg (by omega),if_neg (by omega)]
  rfl
theorem DY {k e:Int}(hk: ¬(k=1∨k=2)):(ev E).call 28 [LV.int .i64 k,LV.cv (CV.agg [CV.str d,CV.int .i64 e])] μ=some (.ret (.ltup [LV.str [],LV.int .i64 15]) μ):=by
 refine aK ?_
 rw[Oz,decide_eq_false (fun h=>hk (Or.inl h)),decide_eq_false (fun h=>hk (Or.inr h))]
 rfl
theorem PD {k e:Int}(hk:k=1∨k=2)(hd:d.length≤200000)(he: -9223372036854775808≤e)(he2:e≤9223372036854775807):(ev E).call 28 [LV.int .i64 k,LV.cv (CV.agg [CV.str d,CV.int .i64 e])] μ=some (.ret (.ltup [LV.str (fh k d e).1,LV.int .i64 (fh k d e).2]) μ):=by
 refine aK ?_
 have hG:Fd (ev E) k d e μ=some (dE (fh k d e).1 (fh k d e).2 μ):=by
  refine aO ?_
  have h47:=ux (μ:=μ) hd (n:=0) (Nat.zero_le _)
  have e0:((0:Nat):Int)=0:=rfl
  rw[e0]at h47
  rw[MT,o6]
  simp only[ad,ao,aa,aj,am,ah,ae,ak,aw,cond_true,cond_false,Bool.not_true,Bool.not_false,ar,au,aq]
  rw[h47]
  simp only[ad,ao,aa,aj,am,ah,ae,ak,aw,cond_true,cond_false,Bool.not_true,Bool.not_false,ar,au,aq]
  cases d with
  |nil=>rfl
  |cons c r=>
   rw[decide_eq_true (by rw[List.length_cons];omega:(1:Int)≤((c::r).length:Int)),Bool.true_and]
   by_cases hl:(c::r).length≤30
   ·rw[decide_eq_true (by omega:((c::r).length:Int)≤30),Bool.not_true,cond_false]
    by_cases hdig:digR (c::r) 0=(c::r).length
    ·rw[decide_eq_true (by rw[hdig]:((digR (c::r) 0:Nat):Int)=((c::r).length:Int)),Bool.not_true,cond_false,show aX (c::r) 0=some c from rfl]
     obtain⟨x,hx1,hx2⟩:=yW (c:=c) (r:=r) (by omega)
     have hall:(c::r).all ay=true:=List.all_eq_true.2 (zg hdig)
     have hdo:cQ (c::r)=k8 (c::r):=by
      unfold cQ
      rw[decide_eq_false (by simp: ¬c::r=[]),decide_eq_true hl,hall]
      rfl
     have hend:k8 (c::r)=(decide (c::r=[48])||(!decide (c=48)&& !decide (x=48))):=by unfold k8;rw[hx2];rfl
     rw[hx1,aa,aa,show decide ((c.toNat:Int)=48)=decide (c=48)from bG (k:=48) (by omega),show decide ((x.toNat:Int)=48)=decide (x=48)from bG (k:=48) (by omega)]
     have tail : cQ (c :: r) = true → (cond (decide (c :: r = [48])) (cond (!decide (e = 0)) (some (dE [] 3 μ)) (opt (oo (ev E) k ((c :: r).length : Int) (c :: r) e μ) (kS (ev E) H28 [] [(4, 0), (5, 0)])))
       (opt (oo (ev E) k ((c::r).length:Int) (c::r) e μ) (kS (ev E) H28 [] [(4,0),(5,0)])))=some (dE (fh k (c::r) e).1 (fh k (c::r) e).2 μ):=by
      intro hok
      rw[NS hk hok he he2,aa,Gz]
      by_cases h48:c::r=[48]
      ·rw[decide_eq_true h48,cond_true]
       by_cases h0:e=0
       ·rw[decide_eq_true h0,mn hok (fun _=>h0)]
        rfl
       ·rw[decide_eq_false h0,gH (fun q=>h0 (q.2 h48))];rfl
      ·rw[decide_eq_false h48,mn hok (fun q=>absurd q h48),cond_false]
     have bad:cQ (c::r)=false→some (dE [] 3 μ)=some (dE (fh k (c::r) e).1 (fh k (c::r) e).2 μ):=by
      intro hb
      rw[gH (by rw[hb];simp)]
     by_cases h1:1<(c::r).length
     ·have hn48:decide (c::r=[48])=false:=decide_eq_false (fun q=>by rw[q]at h1;simp at h1)
      rw[decide_eq_true (by omega:(1:Int)<((c::r).length:Int)),cond_true]
      cases hc:decide (c=48)with
      |true=>
       rw[cond_true]
       exact bad (by rw[hdo,hend,hn48,hc];rfl)
      |false=>
       rw[cond_false]
       cases hxx:decide (x=48)with
       |true=>
        rw[cond_true]
        exact bad (by rw[hdo,hend,hn48,hc,hxx];rfl)
       |false=>
        rw[cond_false]
        exact tail (by rw[hdo,hend,hc,hxx];simp)
     ·rw[decide_eq_false (by omega: ¬(1:Int)<((c::r).length:Int)),cond_false]
      refine tail ?_
      have hr:r=[]:=by
       simp only[List.length_cons]at h1
       exact List.eq_nil_of_length_eq_zero (by omega)
      subst hr
      have hxc:x=c:=by
       have h6:aX [c] (IntKind.wrap .i64 ((([c]:List UInt8).length:Int) -1))=some c:=rfl
       rw[h6]at hx1
       exact(Option.some.inj hx1).symm
      rw[hdo,hend,hxc]
      by_cases hc:c=48
      ·subst hc;rfl
      ·simp[hc]
    ·rw[decide_eq_false (fun q=>hdig (by omega)),Bool.not_false,cond_true]
     rw[gH (fun q=>hdig (by unfold digR;rw[List.drop_zero,eo _ (dL q.1).2.2.1]))]
   ·rw[decide_eq_false (by omega: ¬((c::r).length:Int)≤30),Bool.not_false,cond_true]
    rw[gH (fun q=>hl (dL q.1).2.1)]
 rw[Oz,hG]
 rcases hk with rfl|rfl
 ·rw[aa,t6];rfl
 ·rw[aa,t6];rfl
end
end Go.Abs
set_option linter.unusedVariables false
set_option linter.unusedSimpArgs false
set_option maxRecDepth 100000
namespace Go.Abs
open Go Go.Proofs
section
variable {d:List UInt8}{k e:Int}
theorem tZ (h:cQ d=true): ∃c r,d=c::r∧((r=[]∧c=48)∨(c≠48∧eI (fun c=> !decide (c=48)) (c::r).reverse=true)):=by
 obtain⟨f1,f2,f3,f4⟩:=dL h
 cases d with
 |nil=>simp at f1
 |cons c r=>
  refine⟨c,r,rfl,?_⟩
  unfold k8 at f4
  rw[Bool.or_eq_true,decide_eq_true_eq,Bool.and_eq_true]at f4
  rcases f4 with f4|⟨f4,f5⟩
  ·injection f4 with a b
   exact Or.inl ⟨b,a⟩
  ·exact Or.inr ⟨by simpa[eI]using f4,f5⟩
theorem JL (hk:k=1∨k=2)(h:cQ d=true)(h1: -999≤pw d e)(h2:pw d e≤999):RealOK (d.take 1) (aU (d.drop 1)) k (pw d e):=by
 obtain⟨f1,f2,f3,f4⟩:=dL h
 obtain⟨c,r,rfl,hc⟩:=tZ h
 refine⟨fun b hb=>f3 b (List.mem_of_mem_take hb),Or.inl rfl,oa (fun b hb=>f3 b (List.mem_of_mem_drop hb)),?_,?_,h1,h2,hk⟩
 ·show jd (aU r).reverse
  by_cases hr:r=[]
  ·subst hr;exact Or.inl rfl
  ·unfold aU
   rw[if_neg hr]
   rcases hc with⟨h,_⟩|⟨_,h⟩
   ·exact absurd h hr
   ·rw[List.reverse_cons]at h
    cases hq:r.reverse with
    |nil=>exact absurd (List.reverse_eq_nil_iff.1 hq) hr
    |cons y t=>
     rw[hq]at h
     exact Or.inr ⟨y,t,rfl,by simpa[eI]using h⟩
 ·show countR [c]+countR (aU r)≤30
  simp only[List.length_cons]at f2
  have h3:countR [c]≤1:=by unfold countR;split<;>simp
  by_cases hr:r=[]
  ·subst hr
   have:countR (aU [])=0:=rfl
   omega
  ·have:countR (aU r)≤r.length:=by
    unfold aU countR
    rw[if_neg hr]
    split
    ·omega
    ·exact Nat.le_refl _
   omega
theorem Lp (h:cQ d=true)(h0:d=[48]→e=0):d8 (d.take 1) (aU (d.drop 1)) (pw d e)=(d,e):=by
 obtain⟨f1,f2,f3,f4⟩:=dL h
 obtain⟨c,r,rfl,hc⟩:=tZ h
 show d8 [c] (aU r) (pw (c::r) e)=(c::r,e)
 by_cases hr:r=[]
 ·subst hr
  by_cases h48:c=48
  ·subst h48
   rw[h0 rfl]
   rfl
  ·have hL:br ([c]++aU [])=[c,48]:=by
    unfold br Lib.trimLeftB
    show ([c,48]:List UInt8).dropWhile _=_
    rw[List.dropWhile_cons]
    simp[h48]
   have hR:bn [c,48]=[c]:=by
    show bn ([c]++[48])=[c]
    rw[ub]
    exact j6 (l:=[]) h48
   unfold d8
   rw[hL,hR,if_neg (by simp)]
   unfold pw
   have e1:(aU []).length=1:=rfl
   have e2:([c,48]:List UInt8).length=2:=rfl
   have e3:([c]:List UInt8).length=1:=rfl
   rw[e1,e2,e3]
   congr 1
   omega
 ·rcases hc with⟨h1,_⟩|⟨hc,hl⟩
  ·exact absurd h1 hr
  ·have hz:aU r=r:=by unfold aU;rw[if_neg hr]
   have hL:br ([c]++r)=c::r:=by
    unfold br Lib.trimLeftB
    show (c::r).dropWhile _=_
    rw[List.dropWhile_cons]
    simp[hc]
   have hR:bn (c::r)=c::r:=by
    rcases List.eq_nil_or_concat (c::r)with h1|⟨m,x,hm⟩
    ·cases h1
    ·rw[List.concat_eq_append]at hm
     have hx:x≠48:=by
      rw[hm,List.reverse_append]at hl
      simpa[eI]using hl
     rw[hm,j6 hx]
   unfold d8
   rw[hz,hL,hR,if_neg (by simp)]
   unfold pw
   simp only[List.length_cons]
   congr 1
   omega
section
variable {s:List UInt8}
theorem Ck (hs:s.length≤200000): ∃(x:List UInt8) (n m:Int),∀μ:Mu,(ev E).call 25 [LV.str s] μ=some (.ret (.ltup [.cv (CV.agg [CV.str x,CV.int .i64 n]),LV.int .i64 m]) μ)∧
  (ev E).call 27 [LV.str s] μ=some (.ret (.ltup [.cv (CV.agg [CV.str x,CV.int .i64 n]),LV.int .i64 m]) μ):=by
 by_cases h:(gf s).2=0
 ·have hk:gf s=(0,0)∧bm 0 s=0∨ ∃ty,(ty=1∨ty=2)∧bm ty s=0:=by
   unfold gf at h ⊢
   rcases sB (s:=s)with h0|h0|h0
   ·left;simp[h0]
   ·right
    simp only[h0,ne_eq,not_true_eq_false,if_false]at h
    rcases lp (s:=s) (k:=1) (Or.inl rfl)with h1|h1
    ·exact⟨1,Or.inl rfl,h1⟩
    ·rcases lp (s:=s) (k:=2) (Or.inr rfl)with h2|h2
     ·exact⟨2,Or.inr rfl,h2⟩
     ·simp[h1,h2]at h
   ·simp[h0]at h
  rcases hk with⟨hk,h0⟩|⟨ty,ht,hc⟩
  ·exact⟨_,_,_,fun μ=>⟨Hj hs hk,Jr hs h0⟩⟩
  ·obtain⟨W,P,p,ho,rfl⟩:=Er ht hc
   exact⟨_,_,_,fun μ=>⟨vg ho,EW ho⟩⟩
 ·exact⟨_,_,_,fun μ=>⟨GL hs h,Jt hs h⟩⟩
theorem yH {β:Type}{x:List UInt8}{n:Int}{k:List UInt8→Int→Option β}:Fb (.cv (CV.agg [CV.str x,CV.int .i64 n])) k=k x n:=rfl
theorem PH (hx1: -9223372036854775808≤e)(hx2:e≤9223372036854775807):(ev E).call 6 [LV.str s,LV.int .i64 k,LV.cv (CV.agg [CV.str d,CV.int .i64 e])] []=some (.ret (LV.bool true) []):=by
 refine aK ?_
 rw[nf6,P6]
 simp only[ad,ao,aa,aj,am,ah,ae,ak,aw,cond_true,cond_false,Bool.not_true,Bool.not_false,ar,au,aq]
 have hG:Pb (ev E) s k d e []=some (nS true []):=by
  refine aO ?_
  rw[O0]
  by_cases h1:130<s.length
  ·rw[decide_eq_true (by omega:(130:Int)<(s.length:Int))];rfl
  ·rw[decide_eq_false (by omega: ¬(130:Int)<(s.length:Int)),cond_false]
   by_cases h2:130<d.length
   ·rw[decide_eq_true (by omega:(130:Int)<(d.length:Int))];rfl
   ·rw[decide_eq_false (by omega: ¬(130:Int)<(d.length:Int)),cond_false]
    obtain⟨x,n,m,hsame⟩:=Ck (s:=s) (by omega)
    have h25:=(hsame []).1
    have h27:=(hsame []).2
    have hT: ∃(t:List UInt8) (c:Int),(ev E).call 26 [LV.int .i64 k,LV.cv (CV.agg [CV.str d,CV.int .i64 e])] []=some (.ret (.ltup [LV.str t,LV.int .i64 c]) [])∧
      (ev E).call 28 [LV.int .i64 k,LV.cv (CV.agg [CV.str d,CV.int .i64 e])] []=some (.ret (.ltup [LV.str t,LV.int .i64 c]) [])∧
      (c=0→(ev E).call 25 [LV.str t] []=some (.ret (.ltup [.cv (CV.agg [CV.str d,CV.int .i64 e]),LV.int .i64 0]) [])):=by
     by_cases hk:k=1∨k=2
     ·refine⟨_,_,P9 hk hx1 hx2,PD hk (by omega) hx1 hx2,fun hc=> ?_⟩
      by_cases hok:cQ d=true∧(d=[48]→e=0)
      ·rw[mn hok.1 hok.2]at hc ⊢
       simp only at hc ⊢
       by_cases hr: -1998≤e∧e≤999∧ -999≤pw d e∧pw d e≤999
       ·rw[if_pos hr]
        have:=vg (μ:=[]) (JL hk hok.1 hr.2.2.1 hr.2.2.2)
        rw[Lp hok.1 hok.2]at this
        exact this
       ·rw[if_neg hr]at hc
        exact absurd hc (by decide)
      ·rw[gH hok]at hc
       exact absurd hc (by decide)
     ·exact⟨_,_,Gl hk,DY hk,fun hc=>absurd hc (by decide)⟩
    obtain⟨t,c,t1,t2,t3⟩:=hT
    have hG15:c=0→Mo (ev E) t d e []=some (pk true []):=by
     intro hc
     refine aO ?_
     rw[MS,t3 hc]
     simp only[ad,ao,aa,aj,am,ah,ae,ak,aw,cond_true,cond_false,Bool.not_true,Bool.not_false,ar,au,aq,yH,decide_true,Bool.and_self]
    have hG13:Mk (ev E) t c d e []=some (ov true []):=by
     refine aO ?_
     rw[Nu]
     by_cases hc:c=0
     ·rw[decide_eq_true hc,Bool.not_true,cond_false,hG15 hc,aa,D4]
     ·rw[decide_eq_false hc];rfl
    have hG10:Mx (ev E) k t c d e []=some (md true []):=by
     refine aO ?_
     rw[Nn,t2]
     simp only[ad,ao,aa,aj,am,ah,ae,ak,aw,cond_true,cond_false,Bool.not_true,Bool.not_false,ar,au,aq,decide_true,Bool.not_true]
     rw[hG13,aa,FW]
    have hG5:O5 (ev E) s k d e []=some (nw true []):=by
     refine aO ?_
     rw[Oo,h25]
     rw[ad,ao,aa,aj,aa,yH]
     simp only[ad,ao,aa,aj,am,ah,ae,ak,aw,cond_true,cond_false,Bool.not_true,Bool.not_false,ar,au,aq]
     rw[t1]
     simp only[ad,ao,aa,aj,am,ah,ae,ak,aw,cond_true,cond_false,Bool.not_true,Bool.not_false,ar,au,aq]
     rw[h27]
     rw[ad,ao,aa,aj,aa,yH]
     simp only[ad,ao,aa,aj,am,ah,ae,ak,aw,cond_true,cond_false,Bool.not_true,Bool.not_false,ar,au,aq,decide_true,Bool.and_self,Bool.not_true]
     rw[hG10,aa,F4]
    rw[hG5,aa,GG]
 rw[hG,aa,IT]
theorem Q8 {x:List UInt8×Int}(hx: -9223372036854775808≤x.2∧x.2≤9223372036854775807):(ev E).call 6 [LV.str s,LV.int .i64 k,LV.cv (CV.agg [CV.str x.1,CV.int .i64 x.2])] []=some (.ret (LV.bool true) []):=PH hx.1 hx.2
end
end
end Go.Abs
set_option linter.unusedVariables false
set_option linter.unusedSimpArgs false
set_option maxRecDepth 100000
set_option maxHeartbeats 1000000
namespace Go.Abs
open Go Go.Proofs Go.RowKit
theorem sizeBuilder:(Tryz.prog.info? 103).map (·.size)=some 2:=by kernel_rfl
theorem liesBuilder:liesAt Tryz.prog Tryz.prog.depth 103 (2 / Tryz.prog.cellsOf 103) 0 103 1=true:=by kernel_rfl
theorem IR (b:Nat)(w:World)(h0:w.cell? ⟨b,0,none⟩=some (.pointer (some ⟨b,0,none⟩))):
  Calls Tryz.prog 116 #[.pointer (some ⟨b,0,none⟩)] w fun e w'=>e= .returned (.tuple #[])∧w'=w:=by
 obtain⟨j,hj,_⟩:=Option.map_eq_some_iff.1 sizeBuilder
 go_enter Tryz.func116,Tryz.ntmps116
 go_wp2
 rw[Lib.run_neq_ptr_same w _ Tryz.underlying100 hj]
 go_wp2
 go_end0
 exact⟨rfl,rfl⟩
theorem D2 (b:Nat)(w:World)(h0:w.cell? ⟨b,0,none⟩=some (.pointer none))(hsh:w.shape? b=some (103,2))(hfz:w.frozen? ⟨b,0,none⟩=false):
  Calls Tryz.prog 116 #[.pointer (some ⟨b,0,none⟩)] w fun e w'=>e= .returned (.tuple #[])∧w'=w.setCell ⟨b,0,none⟩ (.pointer (some ⟨b,0,none⟩)):=by
 obtain⟨j,hj,hjs⟩:=Option.map_eq_some_iff.1 sizeBuilder
 go_enter Tryz.func116,Tryz.ntmps116
 go_wp2
 rw[Lib.run_to_unsafe w ⟨b,0,none⟩ Tryz.underlying100 Tryz.underlying159 hj (by rw[hjs];decide) hsh (Nat.zero_lt_succ 1)]
 simp only[Result.andThen]
 rw[Oper.upon_value]
 go_wp2
 rw[run_callFunc_extern Tryz.func146 (by kernel_rfl) (by kernel_rfl) (by kernel_rfl) (e:=Extern.AbiNoEscape.same) (by kernel_rfl)]
 rw[Lib.run_noEscape]
 simp only[Result.andThen]
 rw[Oper.upon_value]
 go_wp2
 rw[Lib.run_from_unsafe w ⟨b,0,none⟩ Tryz.underlying159 Tryz.underlying100 hj hsh liesBuilder]
 simp only[Result.andThen]
 rw[Oper.upon_value]
 go_wp2
 go_end0
 exact⟨rfl,rfl⟩
theorem Jy {b:Nat}{w:World}{p:Option Addr}{v:Value}(h0:w.cell? ⟨b,0,none⟩=some v)(hfz:w.frozen? ⟨b,0,none⟩=false):(storeVar 100 ⟨b,0,none⟩ (.pointer p)).run Tryz.prog w= .ok () (w.setCell ⟨b,0,none⟩ (.pointer p)):=by
 simp[storeVar,Tryz.sizeOf100,storeCells,Value.cells,run_store_pointer,stored,h0,hfz,Addr.add]
section
variable {W0 w:World}{G:Gh}{L:Nat}{μ:Mu}
theorem Rel.ret {args:List LV}{cargs:Array Value}{v:LV}{cv:Value}(R:Rel G L (aL args) μ cargs w)(hv:LVR G w L 0 v cv)(hno: ∀b,¬aC v cv b):
  Rel G L (aL [v]) μ #[cv] w∧(∀b,ax G w (aL [v]) μ #[cv] b→ax G w (aL args) μ cargs b):=by
 have hob: ∀lev i,aB (μ++[(aL [v]).lam]) lev i=aB (μ++[(aL args).lam]) lev i:=fun _ _=>rfl
 have hown: ∀q b,av G w (aL [v]).fr #[cv] (μ++[(aL [v]).lam]) q b→av G w (aL args).fr cargs (μ++[(aL args).lam]) q b:=by
  intro q b h
  cases q with
  |fr t=>
   exfalso
   simp only[av,bS]at h
   cases t with
   |zero=>exact hno b h
   |succ t=>simp[aC]at h
  |ob lev i k=>exact h
 refine⟨⟨R.lev,fun t=> ?_,R.lam,R.mu,R.inj,fun q q' b h h'=>R.own q q' b (hown q b h) (hown q' b h'),fun q b lev i h h'=>R.apart q b lev i (hown q b h) h',R.nlt,R.nL,R.ngt⟩,fun b h=> ?_⟩
 ·rw[bS]
  cases t with
  |zero=>exact hv
  |succ t=>simp[LVR,VR]
 ·rcases h with⟨q,h⟩|h
  ·exact .inl ⟨q,hown q b h⟩
  ·exact .inr h
structure Bld (G:Gh) (L:Nat) (μ:Mu) (w:World) (lev i:Nat) (a b:LV) (cur:Array Value) (fz:Nat×Nat):Prop where
 lt:lev<L
 live:aZ μ lev i= .cells [a,b]
 heap:w.heap[G.β lev i]? =some (.cells cur 103 fz)
 size:cur.size=2
 unf:dH cur fz
 O:G.O (G.β lev i)=0
 va:LVR (G.below lev) w lev 0 a (cur.getD 0 undef)
 vb:LVR (G.below lev) w lev 0 b (cur.getD 1 undef)
theorem G9 {args:List LV}{cargs:Array Value}{lev i:Nat}{a b:LV}(R:Rel G L (aL args) μ cargs w)(ha:args[0]? =some (.cv (.tref lev i 103 2)))(hob:aZ μ lev i= .cells [a,b]):
  ∃cur fz,Bld G L μ w lev i a b cur fz∧i<G.n lev∧cargs.getD 0 undef= .pointer (some ⟨G.β lev i,0,none⟩):=by
 have h0:=R.fr 0
 rw[bS,ha]at h0
 simp only[Option.getD_some,LVR,VR]at h0
 obtain⟨h1,h2,cur,fz,h3,h4⟩:=h0
 have hlt:lev<L:=by
  rcases Nat.lt_trichotomy lev L with h|h|h
  ·exact h
  ·subst h
   have:=R.nL
   simp[aL]at this
   omega
  ·have:=R.ngt lev h
   omega
 have hm:=R.mu lev i hlt
 rw[hob]at hm
 simp only[ObR]at hm
 obtain⟨cur2,e2,fz2,k1,k2,k3,k4,k5⟩:=hm
 rw[h3]at k1
 obtain⟨rfl,rfl,rfl⟩:=(Obj.cells.injEq ..).mp (Option.some.inj k1)
 exact⟨cur,fz,⟨hlt,hob,h3,h4,k2,k3,k5 0 a rfl,k5 1 b rfl⟩,h1,h2⟩
theorem Aj {cargs:Array Value}{v:Value}(hs:cargs.size=1)(hv:cargs.getD 0 undef=v):cargs= #[v]:=by
 apply Array.ext
 ·simpa using hs
 ·intro j h1 h2
  have:j=0:=by omega
  subst this
  rw[Array.getD_eq_getD_getElem?,Array.getElem?_eq_getElem h1]at hv
  simpa using hv
theorem G5 {lev i:Nat}{o:Ob}{args:List LV}(hlt:lev<μ.length)(h:aZ μ lev i=o):aB (μ++[(aL args).lam]) lev i=o:=by
 rw[←h]
 exact bo hlt
theorem Pp {b:Nat}{cur:Array Value}{e:TypeId}{fz:Nat×Nat}{k:Nat}(h:w.heap[b]? =some (.cells cur e fz))(hk:k<cur.size):w.cell? ⟨b,k,none⟩=some (cur.getD k undef):=by
 unfold World.cell?
 simp only[h]
 simp[Array.getD_eq_getD_getElem?,hk]
theorem MB {b:Nat}{cur:Array Value}{e:TypeId}{fz:Nat×Nat}{k:Nat}(h:w.heap[b]? =some (.cells cur e fz))(hk:k<cur.size)(hu:dH cur fz):w.frozen? ⟨b,k,none⟩=false:=by
 have:=hu k hk
 unfold World.frozen?
 simp only[h]
 simp
 omega
theorem zU {args:List LV}{out:Out}(h:oZ 103 args μ=some out):bY E.P W0 116 args μ out:=by
 unfold oZ at h
 obtain⟨q,hq,h2⟩:=bk h
 clear h
 obtain⟨u,hu,h⟩:=bk h2
 clear h2
 have hargs:args=[q.1]:=by rw[dk hq,fP hu]
 rw[hargs]
 clear hargs hq hu
 obtain⟨x,y⟩:=q
 simp only at h ⊢
 split at h<;>try(cases h;done)
 rename_i lev i t n
 obtain⟨hg,h2⟩:=cX h
 clear h
 rw[Bool.and_eq_true]at hg
 have ht:=Nat.eq_of_beq_eq_true hg.1
 have hn:=Nat.eq_of_beq_eq_true hg.2
 subst ht hn
 refine⟨cE Tryz.func116 rfl (by kernel_rfl),fun G w cargs hs R hkn=> ?_⟩
 split at h2<;>try(cases h2;done)
 rename_i a b hob
 obtain⟨cur,fz,B,hin,hc0⟩:=G9 R rfl hob
 have hca:=Aj (by simpa using hs) hc0
 have hlt:lev<μ.length:=B.lt
 have hcell:=Pp (w:=w) B.heap (k:=0) (by rw[B.size];omega)
 split at h2<;>try(cases h2;done)
 ·
  injection h2 with h
  subst h
  have hva:=B.va
  simp only[LVR,VR]at hva
  rw[hva]at hcell
  have hfr:=MB (w:=w) B.heap (k:=0) (by rw[B.size];omega) B.unf
  have hsh:w.shape? (G.β lev i)=some (103,2):=by
   unfold World.shape?
   simp only[B.heap,B.size]
  have hset:bM μ lev i (.cells [.cv (.ref lev i 0),b])++[(aL [LV.cv (CV.tref lev i 103 2)]).lam]=bM (μ++[(aL [LV.cv (CV.tref lev i 103 2)]).lam]) lev i (.cells [.cv (.ref lev i 0),b]):=(kA hlt).symm
  obtain⟨w',hrun,R2,E2⟩:=R.writeOb (P:=Tryz.prog) (t:=100) (s1:=aL [LV.cv (CV.tref lev i 103 2)]) (μ1:=bM μ lev i (.cells [.cv (.ref lev i 0),b])) (lev:=lev) (i:=i) (off:=0) (v:= .cv (.ref lev i 0)) (cv:= .pointer (some ⟨G.β lev i,0,none⟩)) (o':= .cells [.cv (.ref lev i 0),b])
   (Ext.refl G w fun b h=>h) (G5 hlt hob) (by kernel_rfl)
   ⟨fun e=>absurd e (Nat.ne_of_lt hlt),fun _=>by simp only[LVR,VR,Gh.below];exact⟨by simpa using hin,trivial⟩⟩
   (fun b hb=>by simp[aC]at hb) rfl rfl rfl gv.1 hset
  have hw:w'=w.setCell ⟨G.β lev i,0,none⟩ (.pointer (some ⟨G.β lev i,0,none⟩)):=by
   have h1:=Jy (p:=some ⟨G.β lev i,0,none⟩) hcell hfr
   rw[hrun]at h1
   injection h1
  rw[hca]
  refine(D2 (G.β lev i) w hcell hsh hfr).mono fun e w2 ⟨h1,h2⟩=> ?_
  subst h1
  rw[←hw]at h2
  subst h2
  obtain⟨R3,hT⟩:=R2.ret (v:= .ltup []) (cv:= .tuple #[]) ⟨#[],rfl,rfl⟩ (fun b h=>by simp[aC]at h)
  exact⟨G.O,R3,hca▸E2.weaken (fun _ h=>h) fun b hb=>hT b hb⟩
 ·
  rename_i l j
  obtain⟨hg2,h3⟩:=cX h2
  rw[Bool.and_eq_true]at hg2
  have hl:=Nat.eq_of_beq_eq_true hg2.1
  have hj:=Nat.eq_of_beq_eq_true hg2.2
  subst hl hj
  injection h3 with h
  subst h
  have hva:=B.va
  simp only[LVR,VR]at hva
  rw[hva.2]at hcell
  rw[hca]
  refine(IR (G.β l j) w hcell).mono fun e w2 ⟨h1,h2⟩=> ?_
  subst h1 h2
  obtain⟨R3,hT⟩:=R.ret (v:= .ltup []) (cv:= .tuple #[]) ⟨#[],rfl,rfl⟩ (fun b h=>by simp[aC]at h)
  exact⟨G.O,R3,Ext.refl G _ (hca▸hT)⟩
end
theorem Bq {b g cap:Nat}{l:List UInt8}{p:Value}{fzb:Nat×Nat}{cur:Array Value}{w:World}(hbk:w.heap[b]? =some (.cells #[p,.slice (some ⟨g,0,none⟩) l.length cap] 103 fzb))(h0:l≠[])(hg:w.heap[g]? =some (.cells cur 5 (0,0)))
  (hnc:l.length≤cap) (hcm:cap≤maxLen) (hsz:l.length≤cur.size) (hcells: ∀(j:Nat) x,l[j]? =some x→w.cell? ⟨g,j,none⟩=some (.int .u8 x.toNat)):
  Calls Tryz.prog 77 #[.pointer (some ⟨b,0,none⟩)] w fun e w'=>e= .returned (.string ⟨l.toArray⟩)∧w'=w.drew.freeze ⟨g,0,none⟩ l.length:=by
 have hl0:l.length≠0:=by simpa using h0
 have c1:w.drew.cell? ⟨b,1,none⟩=some (.slice (some ⟨g,0,none⟩) l.length cap):=by
  have:w.drew.heap[b]? =some (.cells #[p,.slice (some ⟨g,0,none⟩) l.length cap] 103 fzb):=hbk
  rw[Lib.cell_of_heap this];rfl
 have hSD:(Builtin.unsafeSliceData_ #[101] 137 #[.slice (some ⟨g,0,none⟩) l.length cap]).run Tryz.prog w.drew= .ok (.pointer (some ⟨g,0,none⟩)) w.drew:=
  Lib.run_unsafeSliceData_row _ _ _ _ _ _ (by omega)
 have hUS:(Builtin.unsafeString_ #[137,3] 9 #[.pointer (some ⟨g,0,none⟩),.int .i64 l.length]).run Tryz.prog w.drew= .ok (.string ⟨l.toArray⟩) (w.drew.freeze ⟨g,0,none⟩ l.length):=by
  refine Lib.run_unsafeString_row w.drew 137 3 9 5 Tryz.underlying137 Tryz.Builder_Extra_169.cellsByte g cur.size (by have hg':w.drew.heap[g]? =some (.cells cur 5 (0,0)):=hg;simp[World.shape?,hg']) l h0 (by omega) (by unfold maxLen at hcm;omega) ?_
  intro j x hx
  have:=hcells j x hx
  by_cases hj:j=0
  ·subst hj;simpa[Addr.add]using this
  ·simpa[Addr.add,hj]using this
 go_enter Tryz.func77,Tryz.ntmps77
 go_wp2
 go_region
 all_goals(go_wp2;go_ret;exact⟨rfl,rfl⟩)
theorem Gq {b:Nat}{p:Value}{fzb:Nat×Nat}{w:World}(hbk:w.heap[b]? =some (.cells #[p,.slice none 0 0] 103 fzb)):
  Calls Tryz.prog 77 #[.pointer (some ⟨b,0,none⟩)] w fun e w'=>e= .returned (.string ⟨#[]⟩)∧w'=w.drew:=by
 have hUS: ∀W q,(Builtin.unsafeString_ #[137,3] 9 #[.pointer q,.int .i64 0]).run Tryz.prog W= .ok (.string .empty) W:=fun W q=>Lib.run_unsafeString_none W _ _ _ q
 have c1:w.drew.cell? ⟨b,1,none⟩=some (.slice none 0 0):=by
  have:w.drew.heap[b]? =some (.cells #[p,.slice none 0 0] 103 fzb):=hbk
  rw[Lib.cell_of_heap this];rfl
 have hSD:(Builtin.unsafeSliceData_ #[101] 137 #[.slice none 0 0]).run Tryz.prog w.drew= .ok (.pointer none) w.drew:=rfl
 go_enter Tryz.func77,Tryz.ntmps77
 go_wp2
 go_region
 all_goals(go_wp2;go_ret;exact⟨rfl,rfl⟩)
theorem Cl {b g:Nat}{p:Value}{fzb:Nat×Nat}{cur:Array Value}{e:TypeId}{w:World}(hbk:w.heap[b]? =some (.cells #[p,.slice (some ⟨g,0,none⟩) 0 0] 103 fzb))(hg:w.heap[g]? =some (.cells cur e (0,0))):
  Calls Tryz.prog 77 #[.pointer (some ⟨b,0,none⟩)] w fun e w'=>e= .returned (.string ⟨#[]⟩)∧w'=w.drew.alloc (.view ⟨g,0,none⟩ 5):=by
 have hUS: ∀W q,(Builtin.unsafeString_ #[137,3] 9 #[.pointer q,.int .i64 0]).run Tryz.prog W= .ok (.string .empty) W:=fun W q=>Lib.run_unsafeString_none W _ _ _ q
 have hlt:b<w.heap.size:=by
  rcases Nat.lt_or_ge b w.heap.size with h'|h'
  ·exact h'
  ·simp[Array.getElem?_eq_none h']at hbk
 have c1:w.drew.cell? ⟨b,1,none⟩=some (.slice (some ⟨g,0,none⟩) 0 0):=by
  have:w.drew.heap[b]? =some (.cells #[p,.slice (some ⟨g,0,none⟩) 0 0] 103 fzb):=hbk
  rw[Lib.cell_of_heap this];rfl
 have hSD:(Builtin.unsafeSliceData_ #[101] 137 #[.slice (some ⟨g,0,none⟩) 0 0]).run Tryz.prog w.drew= .ok (.pointer (some ⟨w.drew.heap.size,0,none⟩)) (w.drew.alloc (.view ⟨g,0,none⟩ 5)):=
  Lib.run_unsafeSliceData_zero w.drew _ _ 5 Tryz.underlying137 ⟨g,0,none⟩ 0 (e,cur.size) (by have hg':w.drew.heap[g]? =some (.cells cur e (0,0)):=hg;simp[World.shape?,hg'])
 have c2:(w.drew.alloc (.view ⟨g,0,none⟩ 5)).cell? ⟨b,1,none⟩=some (.slice (some ⟨g,0,none⟩) 0 0):=by
  have:(w.drew.alloc (.view ⟨g,0,none⟩ 5)).heap[b]? =_:=(Lib.alloc_old w.drew _ b hlt).trans hbk
  rw[Lib.cell_of_heap this];rfl
 have c3:(w.alloc (.view ⟨g,0,none⟩ 5)).drew.cell? ⟨b,1,none⟩=some (.slice (some ⟨g,0,none⟩) 0 0):=c2
 have c0:w.cell? ⟨b,1,none⟩=some (.slice (some ⟨g,0,none⟩) 0 0):=c1
 go_enter Tryz.func77,Tryz.ntmps77
 go_wp2
 go_region
 all_goals(go_wp2;go_ret;exact⟨rfl,rfl⟩)
section
variable {W0 w:World}{G:Gh}{L:Nat}{μ:Mu}
theorem qT {args:List LV}{cargs:Array Value}{μ':Mu}{G':Gh}{w':World}{T:Nat→Prop}{v:LV}{cv:Value}(R1:Rel G L (aL args) μ' cargs w)(hT1: ∀b,ax G w (aL args) μ' cargs b→T b)(hle:Le G w G' w')
  (hfr: ∀b,ax G w (aL args) μ' cargs b→w'.heap[b]? =w.heap[b]? ∧G'.O b=G.O b) (hG:G'=G.withO G'.O) (ho:w'.os=w.os) (ht:w'.tape=w.tape) (hu:w'.output=w.output) (hs:w.heap.size≤w'.heap.size)
  (hkeep: ∀b,b<w.heap.size→ ¬T b→w'.heap[b]? =w.heap[b]? ∧G'.O b=G.O b) (hv:LVR G' w' L 0 v cv) (hno: ∀b,¬aC v cv b):eB L T G w (.ret v μ') (.returned cv) w':=by
 have hβ: ∀lev i,G'.β lev i=G.β lev i∧G'.sz lev i=G.sz lev i:=by intro lev i;rw[hG];exact⟨rfl,rfl⟩
 have hn:G'.n=G.n:=by rw[hG];rfl
 obtain⟨R2,hO2⟩:=R1.frame hle hfr (fun lev i _=>hβ lev i) hn
 obtain⟨R3,hT3⟩:=R2.ret hv hno
 have htouch: ∀b,ax G' w' (aL [v]) μ' #[cv] b→T b:=by
  intro b hb
  rcases hT3 b hb with⟨q,h⟩|⟨lev,i,h,e⟩
  ·exact hT1 b (.inl ⟨q,hO2 q b h⟩)
  ·exact hT1 b (.inr ⟨lev,i,h,by rw[←(hβ lev i).1];exact e⟩)
 refine⟨G'.O,?_,?_⟩
 ·rw[←hG];exact R3
 ·rw[←hG]
  exact⟨hle,ho,ht,hu,hs,hkeep,fun b hb=> .inl (htouch b hb),fun l _=>⟨fun i=>hβ l i,by rw[hn]⟩⟩
theorem AV {g n:Nat}{cur:Array Value}{e:TypeId}{fz:Nat×Nat}(hg:w.heap[g]? =some (.cells cur e fz)):
  (∀b,b≠g→(w.drew.freeze ⟨g,0,none⟩ n).heap[b]? =w.heap[b]?)∧(∃fz',(w.drew.freeze ⟨g,0,none⟩ n).heap[g]? =some (.cells cur e fz'))∧(w.drew.freeze ⟨g,0,none⟩ n).os=w.os∧(w.drew.freeze ⟨g,0,none⟩ n).tape=w.tape∧(w.drew.freeze ⟨g,0,none⟩ n).output=w.output∧(w.drew.freeze ⟨g,0,none⟩ n).heap.size=w.heap.size:=by
 have hg':w.drew.heap[g]? =some (.cells cur e fz):=hg
 unfold World.freeze
 split
 ·exact⟨fun b _=>rfl,⟨fz,hg'⟩,rfl,rfl,rfl,rfl⟩
 ·refine⟨fun b hb=> ?_,?_,rfl,rfl,rfl,by simp⟩
  ·simp only[Array.getElem?_modify]
   rw[if_neg (fun e=>hb e.symm)]
   rfl
  ·simp only[Array.getElem?_modify,if_true,hg',Option.map_some]
   exact⟨_,rfl⟩
def lT (l:List UInt8):List CV:=l.map fun(b:UInt8)=>CV.v (.int .u8 (b.toNat:Int))
theorem GF {l:List UInt8}:(lT l).length=l.length:=by simp[lT]
theorem pK: ∀{xs:List CV} {s:List UInt8},bd xs=some s→xs=lT s
 |[],s,h=>by injection h with h;subst h;rfl
 |x::r,s,h=>by
  unfold bd at h
  split at h
  ·rename_i heq;cases heq
  ·rename_i n r' heq
   injection heq with e1 e2
   subst e1 e2
   split at h
   ·rename_i hd
    obtain⟨l,hl,h2⟩:=bk h
    injection h2 with h2
    subst h2
    have ih:=pK hl
    rw[ih]
    simp only[Bool.and_eq_true,decide_eq_true_eq]at hd
    have hn:((UInt8.ofNat n.toNat).toNat:Int)=n:=by
     rw[UInt8.toNat_ofNat_of_lt' (by show n.toNat<256;omega)]
     omega
    show _=CV.v (.int .u8 ((UInt8.ofNat n.toNat).toNat:Int))::lT l
    rw[hn]
   ·cases h
  ·cases h
theorem Hn {args:List LV}{out:Out}(h:vz 103 args μ=some out):bY E.P W0 77 args μ out:=by
 unfold vz at h
 obtain⟨q,hq,h2⟩:=bk h
 clear h
 obtain⟨u,hu,h⟩:=bk h2
 clear h2
 have hargs:args=[q.1]:=by rw[dk hq,fP hu]
 rw[hargs]
 clear hargs hq hu
 obtain⟨x,y⟩:=q
 simp only at h ⊢
 split at h<;>try(cases h;done)
 rename_i lev i t n
 obtain⟨hg,h2⟩:=cX h
 clear h
 rw[Bool.and_eq_true]at hg
 have ht:=Nat.eq_of_beq_eq_true hg.1
 have hn:=Nat.eq_of_beq_eq_true hg.2
 subst ht hn
 refine⟨cE Tryz.func77 rfl (by kernel_rfl),fun G w cargs hs R hkn=> ?_⟩
 split at h2<;>try(cases h2;done)
 rename_i a b hob
 obtain⟨xs,hxs,h3⟩:=bk h2
 obtain⟨s,hbs,h4⟩:=bk h3
 injection h4 with h4
 subst h4
 obtain⟨cur,fz,B,hin,hc0⟩:=G9 R rfl hob
 have hca:=Aj (by simpa using hs) hc0
 have hlt:lev<μ.length:=B.lt
 have hot:=G5 (args:=[LV.cv (CV.tref lev i 103 2)]) hlt hob
 have hl:aJ (aB (μ++[(aL [LV.cv (CV.tref lev i 103 2)]).lam]) lev i):=by rw[hot];trivial
 obtain⟨R1,_,hT,hO1,hO2,hlv⟩:=R.setOb (s1:=aL [LV.cv (CV.tref lev i 103 2)]) (μ1:=bM μ lev i .dead) (o':= .dead) (cur':=cur) hl B.heap rfl rfl rfl rfl gv.1 (kA hlt).symm
  (fun G' w' _ _ _=>⟨fun _=>trivial,fun _=>trivial⟩) (fun cs' k b h=>by cases h)
 rw[setRow_self w _ cur 103 fz B.heap]at R1 hT hO1 hO2
 have hT1: ∀b,ax G w (aL [LV.cv (CV.tref lev i 103 2)]) (bM μ lev i .dead) cargs b→ax G w (aL [LV.cv (CV.tref lev i 103 2)]) μ cargs b:=by
  intro b hb
  rcases hT b hb with h|⟨cs',k,h,_⟩
  ·exact h
  ·cases h
 obtain⟨hown,howns⟩:=gS hxs B.vb
 have hp1: ∃p,w.heap[G.β lev i]? =some (.cells #[p,cur.getD 1 undef] 103 fz):=by
  refine⟨cur.getD 0 undef,?_⟩
  rw[B.heap]
  congr 2
  apply Array.ext
  ·exact B.size
  ·intro j h1 h2
   have hsz:=B.size
   have:j=0∨j=1:=by omega
   rcases this with rfl|rfl
   ·simp[Array.getD_eq_getD_getElem?,hsz]
   ·simp[Array.getD_eq_getD_getElem?,hsz]
 obtain⟨p,hbk⟩:=hp1
 rw[hca]
 rcases hown with⟨hx0,hv0⟩|⟨g,cap,cur2,e2,sz,hv,hg,h1,h2',h3',h4,h5,h6,h7,h8⟩
 ·
  subst hx0
  have hs0:s=[]:=by injection hbs with h;exact h.symm
  subst hs0
  rw[hv0]at hbk
  refine(Gq hbk).mono fun e w2 ⟨k1,k2⟩=> ?_
  subst k1 k2
  rw[←hca]
  exact qT R1 hT1 ⟨fun _ _ _ h hb=>⟨h,hb⟩,fun _ _ h=>⟨h,rfl,rfl⟩,fun _ _ _ h hc=>⟨h,hc⟩,fun b cur e fz h=>⟨cur,fz,h,rfl⟩⟩ (fun b _=>⟨rfl,rfl⟩) rfl rfl rfl rfl (Nat.le_refl _) (fun b _ _=>⟨rfl,rfl⟩) rfl (fun b h=>by simp[aC]at h)
 ·rw[hv]at hbk
  have hob1:av G w (aL [LV.cv (CV.tref lev i 103 2)]).fr cargs (μ++[(aL [LV.cv (CV.tref lev i 103 2)]).lam]) (.ob lev i 1) g:=by
   simp only[av,hot]
   refine⟨cur,103,fz,B.heap,?_⟩
   have:=howns g (by rw[hv];simp[aC])
   exact this
  have hTg:ax G w (aL [LV.cv (CV.tref lev i 103 2)]) μ cargs g:= .inl ⟨_,hob1⟩
  have hne: ∀b,ax G w (aL [LV.cv (CV.tref lev i 103 2)]) (bM μ lev i .dead) cargs b→b≠g:=by
   intro b hb e
   subst e
   rcases hb with⟨q,hb⟩|⟨l,j,hb,e⟩
   ·rcases hO1 q b hb with h|⟨cs',k,h,_⟩
    ·have hq:=R.own q (.ob lev i 1) b h hob1
     subst hq
     obtain⟨cs',h,_⟩:=hO2 1 b hb
     cases h
    ·cases h
   ·exact R.apart (.ob lev i 1) b l j hob1 (hlv l j hb) e
  by_cases hx0:xs=[]
  ·subst hx0
   have hs0:s=[]:=by injection hbs with h;exact h.symm
   subst hs0
   have hcap:=h5 rfl
   subst hcap
   refine(Cl hbk hg).mono fun e w2 ⟨k1,k2⟩=> ?_
   subst k1 k2
   rw[←hca]
   have hle:=oh (G:=G) (w:=w.drew) (.view ⟨g,0,none⟩ 5) 0
   have hle2:Le G w (G.setO w.drew.heap.size 0) (w.drew.alloc (.view ⟨g,0,none⟩ 5)):=⟨hle.map,hle.ref,hle.imm,hle.blk⟩
   have hold: ∀b,b<w.heap.size→(w.drew.alloc (.view ⟨g,0,none⟩ 5)).heap[b]? =w.heap[b]? ∧(G.setO w.drew.heap.size 0).O b=G.O b:=fun b hb=>⟨heap_alloc_old w.drew _ hb,cu (Nat.ne_of_lt hb)⟩
   exact qT R1 hT1 hle2 (fun b hb=>hold b (R1.touch_lt hb)) rfl rfl rfl rfl (by simp[World.alloc]) (fun b hb _=>hold b hb) rfl (fun b h=>by simp[aC]at h)
  ·have he:e2=5:=h8 (by rw[hbs];rfl) hx0
   subst he
   have hxs2:=pK hbs
   have hlen:xs.length=s.length:=by rw[hxs2,GF]
   have hs0:s≠[]:=by
    intro h
    rw[h]at hlen
    exact hx0 (List.eq_nil_of_length_eq_zero hlen)
   have hsz1:sz=1:=by
    cases xs with
    |nil=>exact absurd rfl hx0
    |cons c r=>
     have:=h4 c List.mem_cons_self
     have hc:c∈lT s:=by rw[←hxs2];exact List.mem_cons_self
     obtain⟨b,_,rfl⟩:=List.mem_map.1 hc
     exact this.symm
   subst hsz1
   obtain⟨olds,ho1,ho2⟩:=rF h6 h4
   have hcells: ∀(j:Nat) x,s[j]? =some x→w.cell? ⟨g,j,none⟩=some (.int .u8 x.toNat):=by
    intro j x hx
    have hflat:xs.flatMap CV.cells=lT s:=by rw[hxs2];exact oY s
    rw[hflat]at ho1
    obtain⟨v,hv1,hv2⟩:=(dt ho1).2 j (CV.int .u8 (x.toNat:Int)) (by simp[lT,hx])
    simp only[VR]at hv2
    subst hv2
    have:=(ho2 j _ hv1).1
    simpa using this
   rw[hlen]at hbk h1
   refine(Bq hbk hs0 hg h1 h2' (by omega) hcells).mono fun e w2 ⟨k1,k2⟩=> ?_
   subst k1 k2
   rw[←hca]
   obtain⟨f1,⟨fz',f2⟩,f3,f4,f5,f6⟩:=AV (n:=s.length) hg
   have hle:Le G w G (w.drew.freeze ⟨g,0,none⟩ s.length):=by
    refine⟨fun b es clk h hb=> ?_,fun _ _ h=>⟨h,rfl,rfl⟩,fun b off v h hc=>⟨h,?_⟩,fun b c e fz h=> ?_⟩
    ·have hb2:b≠g:=fun e=>by subst e;rw[hg]at hb;cases hb
     exact⟨h,by rw[f1 b hb2];exact hb⟩
    ·rw[←hc]
     unfold World.cell?
     by_cases hb2:b=g
     ·subst hb2
      simp only[f2,hg]
     ·simp only[f1 b hb2]
    ·by_cases hb2:b=g
     ·subst hb2
      rw[hg]at h
      obtain⟨rfl,rfl,rfl⟩:=(Obj.cells.injEq ..).mp (Option.some.inj h)
      exact⟨_,fz',f2,rfl⟩
     ·exact⟨c,fz,by rw[f1 b hb2];exact h,rfl⟩
   exact qT R1 hT1 hle (fun b hb=>⟨f1 b (hne b hb),rfl⟩) rfl f3 f4 f5 (by rw[f6];exact Nat.le_refl _) (fun b _ hn=>⟨f1 b (fun e=>hn (e▸hTg)),rfl⟩) rfl (fun b h=>by simp[aC]at h)
theorem J5 (B:Base W0):rH E W0:=by
 intro f g hf args μ out h
 have hp:F9 f=some g:=hf
 unfold F9 at hp
 split at hp<;>first|(cases hp;done)|skip
 all_goals(injection hp with hp;subst hp)
 all_goals first
  |exact D7 B h
  |exact ME B h
  |exact Nq B h
  |exact AD B h
  |exact xu B h
  |exact Cj B h
  |exact Ay B h
  |exact K3 B h
  |exact B5 B h
  |exact N4 B h
  |exact B1 B h
  |exact xw B h
  |exact um h
  |exact zU h
  |exact Hn h
theorem Pc:E.P.follows .mixedOrders=true:=by kernel_rfl
end
end Go.Abs
set_option linter.unusedVariables false
set_option linter.unusedSimpArgs false
set_option maxRecDepth 100000
namespace Go.Proofs.YtfcjjankfjaapaaGreatDoor.TokensDigits
open Go Go.Proofs Go.Abs Go.ChangeShapes Go.WideShapes Go.ChangeAt Go.RowKit Glue
theorem jG (H:Type)(enc:TypeId×Value→H)(W:World)(base:Nat)(args:Array Value)(ds gs:List (DataW H))(before:List MemPlace)
  (hval: ∀(j:Nat) t v,Tryz.f6.params[j]? =some t→args[j]? =some v→Value.okWide Tryz.prog W .any base t v)
  (hW:DataW.Whole enc Tryz.prog Tryz.f6.params.toList Rows.tokensDigitsSpec.vars false W args.toList ds gs before) (hL:laidMetH Tryz.prog Rows.tokensDigitsRow.laid W) (hS:W.ShapedOpen Tryz.prog):
  Calls Tryz.prog 6 args W fun e W'=> ∃v,e= .returned v∧Rows.tokensDigitsSpec.post enc Tryz.prog Tryz.f6 false true false false W args v W':=by
 have hL':laidMet Tryz.prog rM W:=hL
 have B:=yR hL' hS
 have hW':=hW
 obtain⟨p,q,hA0,hV0,rfl,_,_⟩:=hW
 have hA:DataW.TrodAll enc Tryz.prog W 0 (fun _=>true) true Tryz.f6.params.toList args.toList ds p:=hA0
 rw[Tryz.params6]at hA hval
 obtain⟨v0,vs0,d0,ds0,p0,q0,e0,rfl,rfl,h0,r0⟩:=trodAll_cons hA
 obtain⟨v1,vs1,d1,ds1,p1,q1,e1,rfl,rfl,h1,r1⟩:=trodAll_cons r0
 obtain⟨v2,vs2,d2,ds2,p2,q2,e2,rfl,rfl,h2,r2⟩:=trodAll_cons r1
 obtain⟨rfl,rfl,rfl⟩:=trodAll_nil r2
 obtain rfl:args= #[v0,v1,v2]:=by cases args;simp_all
 obtain⟨rfl,rfl⟩:=trodVars_none hV0
 obtain⟨c0,V0,I0⟩:=Ga.open_arg (n:=8) (l:=[.str]) (by kernel_rfl) (hval 0 9 v0 rfl rfl) h0
 obtain⟨x0,X0⟩:=Ga.is_str (t:=9) (by kernel_rfl) I0
 obtain⟨c1,V1,I1⟩:=Ga.open_arg (n:=8) (l:=[.int .i64]) (by kernel_rfl) (hval 1 3 v1 rfl rfl) h1
 obtain⟨x1,X1⟩:=Ga.is_int (t:=3) (by kernel_rfl) I1
 obtain⟨c2,V2,I2⟩:=Ga.open_arg (n:=8) (l:=[.str,.int .i64]) (by kernel_rfl) (hval 2 46 v2 rfl rfl) h2
 obtain⟨x2,X2⟩:=Ga.is_digits (t:=46) (by kernel_rfl) I2
 clear hA0 hV0
 simp only[List.append_nil]at hW'
 have hm:bY Tryz.prog W 6 ([c0,c1,c2].map LV.cv) [] (.ret (LV.bool true) []):=by
  refine Ab Pc (J5 B) ?_
  show (ev E).call 6 [LV.cv c0,LV.cv c1,LV.cv c2] []=_
  rw[(X0).1,(X1).1,(X2).1]
  exact Q8 X2.2
 refine(bY.bool (cargs:= #[v0,v1,v2]) hm rfl (fun j x hx=> ?_)).mono fun e W' ⟨he,hk⟩=> ?_
 ·match j,hx with
  |0,hx=>injection hx with hx;subst hx;exact V0
  |1,hx=>injection hx with hx;subst hx;exact V1
  |2,hx=>injection hx with hx;subst hx;exact V2
 ·subst he
  exact⟨_,rfl,Ga.post_true (tb:=4) M2 (by kernel_rfl) Tryz.underlying4 (by kernel_rfl) rfl hW' rfl rfl rfl hk⟩
theorem Ci (os:Os){H:Type}(enc:TypeId×Value→H):
  (OpenSpec.ofChange Rows.tokensDigitsSpec).preRow enc Tryz.prog Tryz.f6 Rows.tokensDigitsRow.domain false Rows.tokensDigitsRow.laid ((gB os).forCall (fun _ _=>0) ⟨#[],#[.string ⟨#[]⟩,.int .i64 0,.agg #[.string ⟨#[]⟩,.int .i64 0]],[]⟩).memory #[.string ⟨#[]⟩,.int .i64 0,.agg #[.string ⟨#[]⟩,.int .i64 0]]:=by
 have hw:(DataW.whole enc Tryz.prog ((gB os).forCall (fun _ _=>0) ⟨#[],#[.string ⟨#[]⟩,.int .i64 0,.agg #[.string ⟨#[]⟩,.int .i64 0]],[]⟩).memory Tryz.f6.params.toList Rows.tokensDigitsSpec.vars false (#[.string ⟨#[]⟩,.int .i64 0,.agg #[.string ⟨#[]⟩,.int .i64 0]]:Array Value).toList 8).map (fun x=>(x.1,x.2.1))=
   some ([.lit (.string []),.lit (.int .i64 0),.agg [.lit (.string []),.lit (.int .i64 0)]],[]):=by kernel_rfl
 obtain⟨⟨x1,x2,x3⟩,hx,hx1⟩:=Option.map_eq_some_iff.1 hw
 simp only[Prod.mk.injEq]at hx1
 obtain⟨rfl,rfl⟩:=hx1
 exact OpenSpec.preRow_of_cond 8 hx (by kernel_rfl) (fun k hk=>by cases hk) (by kernel_rfl) (Lq os _)
theorem Oa (os:Os)(started:os.Started)(H:Type)(enc:TypeId×Value→H)(F:Stop.Interp):
  ReturnsInHanded {} Tryz.checked os 6 .any ((OpenSpec.ofChange Rows.tokensDigitsSpec).preRow enc Tryz.prog Tryz.f6 Rows.tokensDigitsRow.domain false Rows.tokensDigitsRow.laid) (((OpenSpec.ofChange Rows.tokensDigitsSpec).at F).post enc Tryz.prog Tryz.f6 false true false false):=by
 refine returnsInHanded_of_row (C:=Tryz.checked) (s:=OpenSpec.ofChange Rows.tokensDigitsSpec) own started (by kernel_rfl) Tryz.func6
  (witness_row_atRef (enc:=enc) (C:=Tryz.checked) false (gB os) #[.string ⟨#[]⟩,.int .i64 0,.agg #[.string ⟨#[]⟩,.int .i64 0]] rfl (by kernel_rfl) (by kernel_rfl) (by kernel_rfl) (Ci os enc)) ?_
 intro W base args ds gs before hval hW _ _ _ hL hS _
 exact jG H enc W base args ds gs before hval hW hL hS
theorem said:Rows.TokensDigitsSaid:=
 OpenClaim.holds_of_cond 6 Tryz.f6 rfl rfl rfl rfl rfl rfl rfl ⟨rfl,rfl,rfl,rfl,rfl⟩ rfl rfl rfl rfl rfl (by kernel_rfl) Tryz.func6 (by kernel_rfl)
  (of_decide_eq_true (by kernel_rfl)) (by unfold Func.isWrapper;first|(rw[if_pos (by decide+kernel)];kernel_rfl)|(rw[if_neg (by decide+kernel)];exact⟨rfl,rfl⟩))
  (fun os started H enc _ F=>by rw[OpenClaim.pre_eq_preRow];exact Oa os started H enc F)
theorem plain (f:FuncId)(fn:Func)(hf:Tryz.pinned.checked.prog.funcNamed "formulary/formularylaw03.TokensDigits" =some f)(hfn:Tryz.pinned.checked.prog.funcs[f]? =some fn):
  true=Tryz.pinned.checked.prog.looks []∧ ∀(j:Nat) t,fn.params[j]? =some t→Tryz.pinned.checked.prog.wantsStandIn t=false:=by
 obtain rfl:f=6:=Option.some.inj ((show Tryz.prog.funcNamed "formulary/formularylaw03.TokensDigits" =some 6 by kernel_rfl).symm.trans hf) |>.symm
 obtain rfl:fn=Tryz.f6:=(Option.some.inj (Tryz.func6.symm.trans hfn)).symm
 refine⟨by kernel_rfl,fun j t ht=> ?_⟩
 rw[Tryz.params6]at ht
 have hm:=Array.mem_of_getElem? ht
 simp only[List.mem_toArray,List.mem_cons,List.not_mem_nil,or_false]at hm
 rcases hm with rfl|rfl|rfl
 ·exact(show Tryz.prog.wantsStandIn 9=false by kernel_rfl)
 ·exact(show Tryz.prog.wantsStandIn 3=false by kernel_rfl)
 ·exact(show Tryz.prog.wantsStandIn 46=false by kernel_rfl)
end Go.Proofs.YtfcjjankfjaapaaGreatDoor.TokensDigits
namespace Go.Proofs.YtfcjjankfjaapaaGreatDoor
theorem tokensDigits_holds:Rows.TokensDigitsCardSaid:=
 Claim7.holds_tied_plain_at .later [] _ _ _ _ TokensDigits.said (fun _ h=>by cases h) (by kernel_rfl) (fun _ h=>by cases h) tokensDigits_row_tie rfl ⟨rfl,rfl⟩ (by kernel_rfl) rfl TokensDigits.plain (by kernel_rfl)
#print axioms tokensDigits_holds
end Go.Proofs.YtfcjjankfjaapaaGreatDoor
