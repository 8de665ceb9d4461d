/-
  The statement TokensJoinsCardSaid, proved; part 7 of 8 of its proof.
  The reference's CHARACTER constants and tokens.
  The reference's next token is the program's.
  The chapter's examples, by running the interpreter.
  The tokens of any text in free form.
  Which names, constants and tokens are valid: the two ways in which it is asked.
  The reference's errors of constants and tokens.
  Both ways to ask which constants and tokens are valid answer the same.
  TokensChecks: which constants and tokens are valid.
  TokensConstants: the constant that a text is, the characters of a constant, and the constant of characters.
  REAL and DOUBLE constants: their canonical texts.
  Tokens at the beginning of a list of characters, in free form.
  Canonical texts of tokens, read at the beginning of a longer text.
  The digits of a constant.
  The digits of a constant, by the reference; the constant of digits, by both.
  Valid tokens behind each other: when a text is split into them again.
  When two tokens beside each other are read as they are, they are so whatever comes behind.
  Two tokens beside each other: whatever comes behind.
  A REAL or DOUBLE constant beside a token: whatever comes behind.
  The canonical text of valid tokens is split into them; what is read from a text is valid.
-/
import Derived.Test.YtfcjjankfjaapaaGreatDoorJ5
import Derived.Test.YtfcjjankfjaapaaGreatDoorJ3
import Derived.KernelRfl
set_option linter.all false
set_option linter.unusedSectionVars false
set_option linter.unusedVariables false
set_option linter.unusedSimpArgs false
set_option maxRecDepth 100000
namespace Go.Abs
open Go Go.Proofs
section
variable {μ:Mu}{s:List UInt8}
theorem CH {x y:UInt8}:decide ((x.toNat:Int)=(y.toNat:Int))=decide (x=y):=by
 by_cases h:x=y
 ·subst h;simp
 ·have:x.toNat≠y.toNat:=fun e=>h (UInt8.toNat.inj e)
  simp[h];omega
def lG (t:List UInt8)(e:Nat):Except Int (Tok×Nat):=if 60<t.length then .error 8 else .ok (⟨1,6,bh t⟩,e)
noncomputable def wH (μ:Mu)(acc:List UInt8)(i:Nat)(a b c d:Int)(t:List UInt8):Option (List UInt8×Nat)→St
 |none=>vt a b t c d μ
 |some (x,k)=>stN μ vq (lG (acc++x) (i+k))
theorem SG (hs:s.length≤200000){q:UInt8}{a b c d:Int}{t:List UInt8}: ∀(k i:Nat) (acc:List UInt8),s.length-i≤k→i≤s.length→acc.length≤i→
  zX (ev E) s (q.toNat:Int) acc (i:Int) a b t c d μ=some (wH μ acc i a b c d t (bW q (s.drop i))):=by
 intro k
 induction k using Nat.strongRecOn with
 |_ k ih=>
  intro i acc hk hi ha
  by_cases hlt:i<s.length
  ·have hd:=List.drop_eq_getElem_cons hlt
   refine ba ?_
   rw[F7,cL hlt,cond_true,co hlt,aa,CH,bU (by omega),Nz hlt,aa,bq (by simp;omega),ay,hd]
   by_cases hq:s[i]=q
   ·have hq1:decide (s[i]=q)=true:=by simp[hq]
    rw[hq1,Bool.not_true,cond_false,hq]
    have h11: ∀{i:Nat},i<s.length→(opt (wi (ev E) acc (i:Int) a b t c d μ) (kS (ev E) H81 [] [(0,0),(4,0),(5,0),(6,0),(7,0)]))=some (stN μ pL (lG acc (i+1))):=by
     intro i hlt
     have:wi (ev E) acc (i:Int) a b t c d μ=some (stN μ nA (lG acc (i+1))):=by
      refine aT ?_
      rw[Ok]
      unfold lG
      by_cases h60:60<acc.length
      ·have:decide ((60:Int)<(acc.length:Int))=true:=by simp;omega
       rw[this,cond_true,if_pos h60]
       rfl
      ·have:decide ((60:Int)<(acc.length:Int))=false:=by simp;omega
       have hG:JG (ev E) acc (i:Int) a b t c d μ=some (rB 1 6 (bh acc) ((i+1:Nat):Int) 0 μ):=by
        refine aT ?_
        rw[Ol,TF (by omega)]
        simp only[ac,aq,aa,ak,am,ah,ae,aj,ay,cond_true,cond_false,Bool.not_true,Bool.not_false,au,ar,ao]
        rw[bU (by omega)]
       rw[this,cond_false,if_neg h60,hG,aa,DP]
       rfl
     rw[this,aa]
     cases lG acc (i+1)with
     |ok q=>exact ug _ _ _ _ _ _ _
     |error e=>exact ug _ _ _ _ _ _ _
    by_cases hlt2:i+1<s.length∧s[i+1]? =some q
    ·obtain⟨h2,h3⟩:=hlt2
     have hd2:=List.drop_eq_getElem_cons h2
     have hg2:s[i+1]=q:=by rw[List.getElem?_eq_getElem h2]at h3;simpa using h3
     have hG:GB (ev E) s (q.toNat:Int) acc (i:Int) a b t c d μ=some (uZ s (q.toNat:Int) (acc++[q]) ((i+1:Nat):Int) a b t c d μ):=by
      refine aT ?_
      have hq2:decide (q=q)=true:=by simp
      rw[FS,bU (by omega),cL h2,cond_true,co h2,aa,CH,hg2,hq2,cond_true,Nz hlt,aa,bq (by simp;omega),ay,hq]
     rw[hG,aa,In,bU (by omega),ih (s.length-(i+1+1)) (by omega) (i+1+1) (acc++[q]) (Nat.le_refl _) (by omega) (by simp;omega),hd2,hg2,gg]
     cases bW q (s.drop (i+1+1))with
     |none=>rfl
     |some x=>
      simp only[wH,Option.map_some]
      have e1:i+1+1+x.2=i+(x.2+2):=by omega
      rw[e1]
      simp
    ·have hne: ∀d u,s.drop (i+1)=d::u→d≠q:=by
      intro d u hdu hdq
      apply hlt2
      have h2:i+1<s.length:=by
       rcases Nat.lt_or_ge (i+1) s.length with h|h
       ·exact h
       ·rw[List.drop_eq_nil_of_le h]at hdu;cases hdu
      refine⟨h2,?_⟩
      rw[List.drop_eq_getElem_cons h2]at hdu
      injection hdu with hdu _
      rw[List.getElem?_eq_getElem h2,hdu,hdq]
     have hG:GB (ev E) s (q.toNat:Int) acc (i:Int) a b t c d μ=some (stN μ pL (lG acc (i+1))):=by
      refine aT ?_
      rw[FS,bU (by omega)]
      by_cases h2:i+1<s.length
      ·have h3:s[i+1]≠q:=fun h=>hlt2 ⟨h2,by rw[List.getElem?_eq_getElem h2,h]⟩
       have h4:decide (s[i+1]=q)=false:=by simp[h3]
       rw[cL h2,cond_true,co h2,aa,CH,h4,cond_false,h11 hlt]
      ·rw[cW (by omega),cond_false,h11 hlt]
     rw[hG,aa,fy hne]
     simp only[wH,List.append_nil]
     cases lG acc (i+1)with
     |ok q=>exact xa _ _ _ _ _ _ _
     |error e=>exact xa _ _ _ _ _ _ _
   ·have hq1:decide (s[i]=q)=false:=by simp[hq]
    rw[hq1,Bool.not_false,cond_true,ih (s.length-(i+1)) (by omega) (i+1) (acc++[s[i]]) (Nat.le_refl _) (by omega) (by simp;omega),il hq]
    cases bW q (s.drop (i+1))with
    |none=>rfl
    |some x=>
     simp only[wH,Option.map_some]
     have e1:i+1+x.2=i+(x.2+1):=by omega
     rw[e1]
     simp
  ·refine ba ?_
   rw[F7,cW (by omega),cond_false,List.drop_eq_nil_of_le (by omega)]
   rfl
theorem TQ (hs:s.length≤200000){n:Nat}(hn:n<s.length):(ev E).call 81 [LV.str s,LV.int .i64 (n:Int)] μ=some (.ret (.cv (lO (cE s n))) μ):=by
 refine aJ ?_
 rw[Vz,co hn,aa,bU (by omega),SG hs (s.length-(n+1)) (n+1) [] (Nat.le_refl _) (by omega) (by simp),aa]
 unfold cE
 rw[List.getElem?_eq_getElem hn,Option.getD_some]
 cases hq:bW s[n] (s.drop (n+1))with
 |none=>exact IV _ _ _ _ _ _ _
 |some x=>
  obtain⟨t,k⟩:=x
  simp only[wH,List.nil_append]
  unfold lG
  by_cases h60:60<t.length
  ·rw[if_pos h60];exact xb _ _ _ _ _ _ _
  ·rw[if_neg h60];exact xb _ _ _ _ _ _ _
theorem SE (hs:s.length≤200000){n:Nat}{a b c d:Int}{t:List UInt8}: ∀(k i:Nat),i+k=s.length→
  tk (ev E) s (n:Int) (i:Int) a b t c d μ=some (mY s (n:Int) ((i+((s.drop i).takeWhile aY).length:Nat):Int) a b t c d μ):=by
 have e95: ∀c:UInt8,decide ((c.toNat:Int)=95)=decide (c.toNat=95):=fun c=>by simp;omega
 intro k
 induction k with
 |zero=>
  intro i hi
  refine ba ?_
  rw[F5,cW (by omega),cond_false,List.drop_eq_nil_of_le (by omega)]
  rfl
 |succ k ih=>
  intro i hi
  have hlt:i<s.length:=by omega
  have hy: ∀{q:Bool},aY s[i]=q→(q=true→tk (ev E) s (n:Int) ((i+1:Nat):Int) a b t c d μ=some (mY s (n:Int) ((i+((s.drop i).takeWhile aY).length:Nat):Int) a b t c d μ))∧(q=false→i+((s.drop i).takeWhile aY).length=i):=by
   intro q hq
   rw[List.drop_eq_getElem_cons hlt,List.takeWhile_cons,hq]
   constructor
   ·intro h
    rw[ih (i+1) (by omega),h]
    simp only[if_true,List.length_cons]
    congr 3
    omega
   ·intro h;rw[h];rfl
  refine ba ?_
  rw[F5,cL hlt,cond_true,co hlt,aa,PR]
  simp only[ac,aq,aa,ak,am,ah,ae,aj,ay,cond_true,cond_false,Bool.not_true,Bool.not_false,au,ar,ao,e95]
  rw[bU (by omega)]
  have hp:aY s[i]=(aV s[i]||av s[i]||decide (s[i].toNat=95)):=rfl
  cases h1:aV s[i]with
  |true=>
   rw[cond_true]
   exact(hy (by rw[hp,h1];rfl)).1 rfl
  |false=>
   rw[cond_false,Ac]
   simp only[ac,aq,aa,ak,am,ah,ae,aj,ay,cond_true,cond_false,Bool.not_true,Bool.not_false,au,ar,ao]
   cases h2:av s[i]with
   |true=>
    rw[cond_true]
    exact(hy (by rw[hp,h1,h2];rfl)).1 rfl
   |false=>
    rw[cond_false]
    cases h3:decide (s[i].toNat=95)with
    |true=>
     rw[cond_true]
     exact(hy (by rw[hp,h1,h2,h3];rfl)).1 rfl
    |false=>
     rw[cond_false,(hy (q:=false) (by rw[hp,h1,h2,h3];rfl)).2 rfl]
def lZ:List (List UInt8×List UInt8):=[([60,61],[46,76,69,46]),([62,61],[46,71,69,46]),([61,61],[46,69,81,46]),([47,61],[46,78,69,46]),([60],[46,76,84,46]),([62],[46,71,84,46])]
def sS (l:List (List UInt8×List UInt8)):List CV:=l.map fun x=>CV.agg [CV.str x.1,CV.str x.2]
def toE:Except Int (Tok×Nat)→Nat
 | .ok q=>q.2
 | .error _=>0
def fc (s:List UInt8)(n:Nat):List (List UInt8×List UInt8)→Except Int (Tok×Nat)→Except Int (Tok×Nat)
 |[],r=>r
 |x::l,r=>fc s n l (if bv s n x.1=true∧toE r<n+x.1.length then .ok (⟨2,0,x.2⟩,n+x.1.length)else r)
def stB {α:Sort _}(X:Int→Int→List UInt8→Int→Int→α):Except Int (Tok×Nat)→α
 | .ok q=>X q.1.kind q.1.type q.1.text (q.2:Int) 0
 | .error e=>X 0 0 [] 0 e
theorem LP (hs:s.length≤200000){n:Nat}(hn:n≤s.length){a b c d:Int}{t:List UInt8}{l:List (List UInt8×List UInt8)}(hl:l.length≤100)(hw: ∀x∈l,x.1.length≤100): ∀(k j:Nat) (r:Except Int (Tok×Nat)),j+k=l.length→
  stB (fun p q u v w=>q5 (ev E) s (n:Int) (sS l) (l.length:Int) (j:Int) a b t c d p q u v w μ) r=some (stB (fun p q u v w=>rO s (n:Int) a b t c d p q u v w μ) (fc s n (l.drop j) r)):=by
 intro k
 induction k with
 |zero=>
  intro j r hj
  rw[List.drop_eq_nil_of_le (by omega)]
  cases r with
  |ok q=>
   refine ba ?_
   rw[qv,cW (by omega),cond_false]
   rfl
  |error e=>
   refine ba ?_
   rw[qv,cW (by omega),cond_false]
   rfl
 |succ k ih=>
  intro j r hj
  have hlt:j<l.length:=by omega
  have hg:bY (sS l) (j:Int)=some (CV.agg [CV.str l[j].1,CV.str l[j].2]):=by rw[e7];simp[sS,hlt]
  have hrd: ∀{β:Type} {k:List UInt8→List UInt8→Option β},PW (LV.cv (CV.agg [CV.str l[j].1,CV.str l[j].2])) k=k l[j].1 l[j].2:=rfl
  have hwl:=hw _ (List.getElem_mem hlt)
  rw[List.drop_eq_getElem_cons hlt,fc]
  have hih:=fun r=>ih (j+1) r (by omega)
  cases r with
  |ok q=>
   refine ba ?_
   rw[qv,cL hlt,cond_true,hg,aa,hrd,qm hs hn (by omega)]
   simp only[ac,aq,aa,ak,am,ah,ae,aj,ay,cond_true,cond_false,Bool.not_true,Bool.not_false,au,ar,ao]
   rw[bU (by omega),gM (by omega)]
   cases hb:bv s n l[j].1 with
   |false=>
    rw[cond_false,if_neg (by simp)]
    exact hih (.ok q)
   |true=>
    rw[cond_true]
    by_cases h2:q.2<n+l[j].1.length
    ·rw[cL h2,cond_true,if_pos ⟨rfl,h2⟩]
     exact hih (.ok (⟨2,0,l[j].2⟩,n+l[j].1.length))
    ·rw[cW (by omega),cond_false,if_neg (fun h=>h2 h.2)]
     exact hih (.ok q)
  |error e=>
   refine ba ?_
   rw[qv,cL hlt,cond_true,hg,aa,hrd,qm hs hn (by omega)]
   simp only[ac,aq,aa,ak,am,ah,ae,aj,ay,cond_true,cond_false,Bool.not_true,Bool.not_false,au,ar,ao]
   rw[bU (by omega),gM (by omega)]
   cases hb:bv s n l[j].1 with
   |false=>
    rw[cond_false,if_neg (by simp)]
    exact hih (.error e)
   |true=>
    rw[cond_true]
    by_cases h2:0<n+l[j].1.length
    ·have:=cL h2
     have e0:((0:Nat):Int)=0:=rfl
     rw[e0]at this
     rw[this,cond_true,if_pos ⟨rfl,h2⟩]
     exact hih (.ok (⟨2,0,l[j].2⟩,n+l[j].1.length))
    ·have:=cW (n:=0) (m:=n+l[j].1.length) (by omega)
     have e0:((0:Nat):Int)=0:=rfl
     rw[e0]at this
     rw[this,cond_false,if_neg (fun h=>h2 h.2)]
     exact hih (.error e)
def mq (l:List (List UInt8)):List (List UInt8×List UInt8):=l.map fun x=>(x,x)
theorem LQ (hs:s.length≤200000){n:Nat}(hn:n≤s.length){a b c d:Int}{t:List UInt8}{l:List (List UInt8)}(hl:l.length≤100)(hw: ∀x∈l,x.length≤100): ∀(k j:Nat) (r:Except Int (Tok×Nat)),j+k=l.length→
  stB (fun p q u v w=>oC (ev E) s (n:Int) (bw l) (l.length:Int) (j:Int) a b t c d p q u v w μ) r=some (stB (fun p q u v w=>lD a b t c d p q u v w μ) (fc s n (mq (l.drop j)) r)):=by
 intro k
 induction k with
 |zero=>
  intro j r hj
  rw[List.drop_eq_nil_of_le (by omega)]
  cases r with
  |ok q=>
   refine ba ?_
   rw[qw,cW (by omega),cond_false]
   rfl
  |error e=>
   refine ba ?_
   rw[qw,cW (by omega),cond_false]
   rfl
 |succ k ih=>
  intro j r hj
  have hlt:j<l.length:=by omega
  have hg:bY (bw l) (j:Int)=some (CV.str l[j]):=by rw[e7];simp[bw,hlt]
  have hwl:=hw _ (List.getElem_mem hlt)
  have hsel:mq (l[j]::l.drop (j+1))=(l[j],l[j])::mq (l.drop (j+1)):=rfl
  rw[List.drop_eq_getElem_cons hlt,hsel,fc]
  have hih:=fun r=>ih (j+1) r (by omega)
  cases r with
  |ok q=>
   refine ba ?_
   rw[qw,cL hlt,cond_true,hg,aa,g7,aa,qm hs hn (by omega)]
   simp only[ac,aq,aa,ak,am,ah,ae,aj,ay,cond_true,cond_false,Bool.not_true,Bool.not_false,au,ar,ao]
   rw[bU (by omega),gM (by omega)]
   cases hb:bv s n l[j]with
   |false=>
    rw[cond_false,if_neg (by simp)]
    exact hih (.ok q)
   |true=>
    rw[cond_true]
    by_cases h2:q.2<n+l[j].length
    ·rw[cL h2,cond_true,if_pos ⟨rfl,h2⟩]
     exact hih (.ok (⟨2,0,l[j]⟩,n+l[j].length))
    ·rw[cW (by omega),cond_false,if_neg (fun h=>h2 h.2)]
     exact hih (.ok q)
  |error e=>
   refine ba ?_
   rw[qw,cL hlt,cond_true,hg,aa,g7,aa,qm hs hn (by omega)]
   simp only[ac,aq,aa,ak,am,ah,ae,aj,ay,cond_true,cond_false,Bool.not_true,Bool.not_false,au,ar,ao]
   rw[bU (by omega),gM (by omega)]
   cases hb:bv s n l[j]with
   |false=>
    rw[cond_false,if_neg (by simp)]
    exact hih (.error e)
   |true=>
    rw[cond_true]
    by_cases h2:0<n+l[j].length
    ·have:=cL h2
     have e0:((0:Nat):Int)=0:=rfl
     rw[e0]at this
     rw[this,cond_true,if_pos ⟨rfl,h2⟩]
     exact hih (.ok (⟨2,0,l[j]⟩,n+l[j].length))
    ·have:=cW (n:=0) (m:=n+l[j].length) (by omega)
     have e0:((0:Nat):Int)=0:=rfl
     rw[e0]at this
     rw[this,cond_false,if_neg (fun h=>h2 h.2)]
     exact hih (.error e)
theorem Hv:(ev E).call 56 [] μ=some (.ret (LV.osl (bw bj)) μ):=aJ (by rw[Vn];rfl)
theorem RV:(ev E).call 100 [] μ=some (.ret (LV.osl (sS lZ)) μ):=aJ (by rw[TY];rfl)
def p6 (s:List UInt8)(n:Nat):Except Int (Tok×Nat):=fc s n (mq bj) (fc s n lZ (.error 7))
theorem OV (hs:s.length≤200000){n:Nat}(hn:n≤s.length){a b c d:Int}{t:List UInt8}:JE (ev E) s (n:Int) a b t c d μ=some (stN μ nz (p6 s n)):=by
 refine aT ?_
 rw[Oi,RV]
 simp only[ac,aq,aa,ak,am,ah,ae,aj,ay,cond_true,cond_false,Bool.not_true,Bool.not_false,au,ar,ao]
 have h1:=LP (μ:=μ) hs hn (a:=a) (b:=b) (c:=c) (d:=d) (t:=t) (l:=lZ) (by decide) (by decide) lZ.length 0 (.error 7) (by omega)
 have e0:((0:Nat):Int)=0:=rfl
 have e1:(sS lZ).length=lZ.length:=rfl
 have e2:(bw bj).length=bj.length:=rfl
 rw[e0,List.drop_zero]at h1
 simp only[stB]at h1
 have h2: ∀r,stB (fun p q u v w=>oC (ev E) s (n:Int) (bw bj) (bj.length:Int) 0 a b t c d p q u v w μ) r=some (stB (fun p q u v w=>lD a b t c d p q u v w μ) (fc s n (mq bj) r)):=by
  intro r
  have:=LQ (μ:=μ) hs hn (a:=a) (b:=b) (c:=c) (d:=d) (t:=t) (l:=bj) (by decide) (by decide) bj.length 0 r (by omega)
  rw[e0,List.drop_zero]at this
  exact this
 rw[e1,h1,aa]
 unfold p6
 have h3:=h2 (fc s n lZ (.error 7))
 have fin: ∀r,kS (ev E) H58 [.block 9,.seq (cA 58 [1,1,1,1,1,1])] [(4,0)] (stB (fun p q u v w=>lD a b t c d p q u v w μ) r)=some (stN μ nz r):=by
  intro r
  cases r with
  |ok q=>exact uq _ _ _ _ _ _ _ _ _ _ _ _
  |error e=>exact uq _ _ _ _ _ _ _ _ _ _ _ _
 cases hr:fc s n lZ (.error 7)with
 |ok q=>
  rw[hr]at h3
  simp only[stB]at h3 ⊢
  rw[uo,Hv]
  simp only[ac,aq,aa,ak,am,ah,ae,aj,ay,cond_true,cond_false,Bool.not_true,Bool.not_false,au,ar,ao]
  rw[e2,h3,aa]
  exact fin _
 |error e=>
  rw[hr]at h3
  simp only[stB]at h3 ⊢
  rw[uo,Hv]
  simp only[ac,aq,aa,ak,am,ah,ae,aj,ay,cond_true,cond_false,Bool.not_true,Bool.not_false,au,ar,ao]
  rw[e2,h3,aa]
  exact fin _
def z6 (s:List UInt8)(n:Nat)(l:List (List UInt8))(kind type:Int)(els:Except Int (Tok×Nat)):Except Int (Tok×Nat):=
 match l.find? (bv s n)with|some w=> .ok (⟨kind,type,w⟩,n+w.length)|none=>els
theorem LN (hs:s.length≤200000){n:Nat}(hn:n≤s.length){a b c d:Int}{t:List UInt8}{l:List (List UInt8)}(hl:l.length≤100)(hw: ∀x∈l,x.length≤100): ∀(k j:Nat),j+k=l.length→
  AK (ev E) s (n:Int) (bw l) (l.length:Int) (j:Int) a b t c d μ=some (match(l.drop j).find? (bv s n)with|some w=>rJ 2 0 w ((n+w.length:Nat):Int) 0 μ|none=>rL s (n:Int) a b t c d μ):=by
 intro k
 induction k with
 |zero=>
  intro j hj
  refine ba ?_
  rw[BV,cW (by omega),cond_false,List.drop_eq_nil_of_le (by omega)]
  rfl
 |succ k ih=>
  intro j hj
  have hlt:j<l.length:=by omega
  have hg:bY (bw l) (j:Int)=some (CV.str l[j]):=by rw[e7];simp[bw,hlt]
  have hwl:=hw _ (List.getElem_mem hlt)
  refine ba ?_
  rw[BV,cL hlt,cond_true,hg,aa,g7,aa,qm hs hn (by omega)]
  simp only[ac,aq,aa,ak,am,ah,ae,aj,ay,cond_true,cond_false,Bool.not_true,Bool.not_false,au,ar,ao]
  rw[bU (by omega),gM (by omega),ih (j+1) (by omega),List.drop_eq_getElem_cons hlt,List.find?_cons]
  cases hb:bv s n l[j]<;>rfl
theorem LO (hs:s.length≤200000){n:Nat}(hn:n≤s.length){a b c d:Int}{t:List UInt8}{l:List (List UInt8)}(hl:l.length≤100)(hw: ∀x∈l,x.length≤100): ∀(k j:Nat),j+k=l.length→
  AL (ev E) s (n:Int) (bw l) (l.length:Int) (j:Int) a b t c d μ=some (match(l.drop j).find? (bv s n)with|some w=>rM 1 5 w ((n+w.length:Nat):Int) 0 μ|none=>rN a b t c d μ):=by
 intro k
 induction k with
 |zero=>
  intro j hj
  refine ba ?_
  rw[BW,cW (by omega),cond_false,List.drop_eq_nil_of_le (by omega)]
  rfl
 |succ k ih=>
  intro j hj
  have hlt:j<l.length:=by omega
  have hg:bY (bw l) (j:Int)=some (CV.str l[j]):=by rw[e7];simp[bw,hlt]
  have hwl:=hw _ (List.getElem_mem hlt)
  refine ba ?_
  rw[BW,cL hlt,cond_true,hg,aa,g7,aa,qm hs hn (by omega)]
  simp only[ac,aq,aa,ak,am,ah,ae,aj,ay,cond_true,cond_false,Bool.not_true,Bool.not_false,au,ar,ao]
  rw[bU (by omega),gM (by omega),ih (j+1) (by omega),List.drop_eq_getElem_cons hlt,List.find?_cons]
  cases hb:bv s n l[j]<;>rfl
def tO (s:List UInt8)(n:Nat):Except Int (Tok×Nat):=z6 s n bK 2 0 (z6 s n [fe,en] 1 5 (.error 7))
def Ah (s:List UInt8)(n:Nat)(c:UInt8):Except Int (Tok×Nat):=
 if aV c then(if 31<((s.drop n).takeWhile aY).length then .error 4 else .ok (⟨0,0,((s.drop n).takeWhile aY).map upB⟩,n+((s.drop n).takeWhile aY).length))
 else if av c||(decide (c=46)&&av ((s[n+1]?).getD 0))then gG s n
 else if c=46 then tO s n
 else if c=39∨c=34 then cE s n
 else p6 s n
theorem nS {β:Type}{q:Except Int (Tok×Nat)}{k:Int→Int→List UInt8→Int→Int→Option β}:Ck (.cv (lO q)) k=stB k q:=by cases q<;>rfl
theorem OU (hs : s.length ≤ 200000) {n : Nat} (hn : n < s.length) {x : Bool} {a b c d : Int} {t : List UInt8} : oz (ev E) s (n : Int) (s[n].toNat : Int) x a b t c d μ = some (
  if x=true then stN μ dC (gG s n)else if s[n]=46 then stN μ dC (tO s n)else if s[n]=39∨s[n]=34 then stN μ dC (cE s n)else rz s (n:Int) a b t c d μ):=by
 have e46: ∀c:UInt8,decide ((c.toNat:Int)=46)=decide (c=46):=fun c=>cq (k:=46) (by omega)
 have e39: ∀c:UInt8,decide ((c.toNat:Int)=39)=decide (c=39):=fun c=>cq (k:=39) (by omega)
 have e34: ∀c:UInt8,decide ((c.toNat:Int)=34)=decide (c=34):=fun c=>cq (k:=34) (by omega)
 have hst: ∀(q:Except Int (Tok×Nat)),stB (fun p q u v w=>some (dC p q u v w μ)) q=some (stN μ dC q):=by intro q;cases q<;>rfl
 refine aT ?_
 rw[Oh,TX hs (by omega),e46,e39,e34,TQ hs hn,ac,ac,nS,nS,hst,hst]
 cases x with
 |true=>rw[cond_true,if_pos rfl]
 |false=>
  rw[cond_false,if_neg (by simp)]
  by_cases h46:s[n]=46
  ·have:decide (s[n]=46)=true:=by simp[h46]
   rw[this,cond_true,if_pos h46,Hu]
   simp only[ac,aq,aa,ak,am,ah,ae,aj,ay,cond_true,cond_false,Bool.not_true,Bool.not_false,au,ar,ao]
   have e2:(bw bK).length=bK.length:=rfl
   have e0:((0:Nat):Int)=0:=rfl
   have h14:=LN (μ:=μ) hs (Nat.le_of_lt hn) (a:=a) (b:=b) (c:=c) (d:=d) (t:=t) (l:=bK) (by decide) (by decide) bK.length 0 (by omega)
   rw[e0,List.drop_zero]at h14
   have h20:=LO (μ:=μ) hs (Nat.le_of_lt hn) (a:=a) (b:=b) (c:=c) (d:=d) (t:=t) (l:=[fe,en]) (by decide) (by decide) 2 0 (by simp)
   rw[e0,List.drop_zero]at h20
   rw[e2,h14,aa]
   unfold tO z6
   cases hf:bK.find? (bv s n)with
   |some w=>simp only;rw[D2];rfl
   |none=>
    simp only
    have e3:[CV.str ([46,84,82,85,69,46]:List UInt8),CV.str ([46,70,65,76,83,69,46]:List UInt8)]=bw [fe,en]:=rfl
    have e4:(2:Int)=(([fe,en]:List (List UInt8)).length:Int):=rfl
    rw[D3,e3]
    rw[←e4]at h20
    rw[h20,aa]
    cases hf2:([fe,en]:List (List UInt8)).find? (bv s n)with
    |some w=>simp only;rw[D4];rfl
    |none=>simp only;rw[D5];rfl
  ·have:decide (s[n]=46)=false:=by simp[h46]
   rw[this,cond_false,if_neg h46]
   by_cases h39:s[n]=39
   ·simp[h39]
   ·by_cases h34:s[n]=34
    ·simp[h34]
    ·simp[h39,h34]
theorem PJ (hs:s.length≤200000){n:Nat}(hn:n<s.length):(ev E).call 58 [LV.str s,LV.int .i64 (n:Int)] μ=some (.ret (.cv (lO (Ah s n s[n]))) μ):=by
 have e46: ∀c:UInt8,decide ((c.toNat:Int)=46)=decide (c=46):=fun c=>cq (k:=46) (by omega)
 refine aJ ?_
 rw[Vp,co hn,aa,PR]
 simp only[ac,aq,aa,ak,am,ah,ae,aj,ay,cond_true,cond_false,Bool.not_true,Bool.not_false,au,ar,ao]
 unfold Ah
 cases hlet:aV s[n]with
 |true=>
  have htw:((s.drop n).takeWhile aY).length≤s.length-n:=by
   have:=(List.takeWhile_sublist aY (l:=s.drop n)).length_le
   rw[List.length_drop]at this
   exact this
  rw[cond_true,SE hs (s.length-n) n (by omega),aa,IR,VQ (by omega) (by omega)]
  have e1:n+((s.drop n).takeWhile aY).length-n=((s.drop n).takeWhile aY).length:=by omega
  rw[e1,if_pos rfl]
  by_cases h31:31<((s.drop n).takeWhile aY).length
  ·have:decide ((31:Int)<(((s.drop n).takeWhile aY).length:Int))=true:=by simp;omega
   rw[this,cond_true,if_pos h31]
   rfl
  ·have:decide ((31:Int)<(((s.drop n).takeWhile aY).length:Int))=false:=by simp;omega
   have hcut:(s.drop n).take ((s.drop n).takeWhile aY).length=(s.drop n).takeWhile aY:=(List.prefix_iff_eq_take.1 (List.takeWhile_prefix _)).symm
   have hG: ∀{a b c d:Int} {t:List UInt8},Pk (ev E) s (n:Int) ((n+((s.drop n).takeWhile aY).length:Nat):Int) a b t c d μ=some (uS 0 0 (((s.drop n).takeWhile aY).map upB) ((n+((s.drop n).takeWhile aY).length:Nat):Int) 0 μ):=by
    intro a b c d t
    refine aT ?_
    rw[Q0,eT (by omega) (by omega),aa,e1,hcut,PS (by omega)]
    simp only[ac,aq,aa,ak,am,ah,ae,aj,ay,cond_true,cond_false,Bool.not_true,Bool.not_false,au,ar,ao]
   rw[this,cond_false,if_neg h31,hG,aa,Ic]
   rfl
 |false=>
  rw[cond_false,Ac]
  simp only[ac,aq,aa,ak,am,ah,ae,aj,ay,cond_true,cond_false,Bool.not_true,Bool.not_false,au,ar,ao,Bool.false_eq_true,if_false,e46]
  have hfin: ∀{x:Bool} {a b c d:Int} {t:List UInt8},(av s[n]||(decide (s[n]=46)&&av ((s[n+1]?).getD 0)))=x→(opt (oz (ev E) s (n:Int) (s[n].toNat:Int) x a b t c d μ) (kB (ev E) 58 H58 [.block 0,.seq (cA 58 [1,1,1])]))=
    some (.ret (.cv (lO (if(av s[n]||(decide (s[n]=46)&&av ((s[n+1]?).getD 0)))=true then gG s n else if s[n]=46 then tO s n else if s[n]=39∨s[n]=34 then cE s n else p6 s n))) μ):=by
   intro x a b c d t hx
   have f0: ∀q:Except Int (Tok×Nat),kB (ev E) 58 H58 [.block 0,.seq (cA 58 [1,1,1])] (stN μ dC q)=some (.ret (.cv (lO q)) μ):=by
    intro q
    cases q with
    |ok q=>exact ue _ _ _ _ _ _ _
    |error e=>exact ue _ _ _ _ _ _ _
   rw[OU hs hn,aa,hx]
   cases x with
   |true=>rw[if_pos rfl,if_pos rfl,f0]
   |false=>
    simp only[Bool.false_eq_true,if_false]
    by_cases h46:s[n]=46
    ·rw[if_pos h46,if_pos h46,f0]
    ·rw[if_neg h46,if_neg h46]
     by_cases hq:s[n]=39∨s[n]=34
     ·rw[if_pos hq,if_pos hq,f0]
     ·rw[if_neg hq,if_neg hq,DN,OV hs (by omega),aa]
      cases p6 s n with
      |ok q=>exact uf _ _ _ _ _ _ _
      |error e=>exact uf _ _ _ _ _ _ _
  cases hdig:av s[n]with
  |true=>
   rw[cond_true]
   have:=hfin (x:=true) (a:=0) (b:=0) (c:=0) (d:=0) (t:=[]) (by rw[hdig];rfl)
   rw[hdig]at this
   exact this
  |false=>
   rw[cond_false]
   by_cases h46:s[n]=46
   ·have h1:decide (s[n]=46)=true:=by simp[h46]
    rw[h1,cond_true,bU (by omega)]
    by_cases h2:n+1<s.length
    ·rw[cL h2,cond_true,co h2,aa,Ac]
     simp only[ac,aq,aa,ak,am,ah,ae,aj,ay,cond_true,cond_false,Bool.not_true,Bool.not_false,au,ar,ao]
     have hg:(s[n+1]?).getD 0=s[n+1]:=by rw[List.getElem?_eq_getElem h2];rfl
     have:=hfin (x:=av s[n+1]) (a:=0) (b:=0) (c:=0) (d:=0) (t:=[]) (by rw[hdig,h1,hg];rfl)
     rw[hdig,h1]at this
     exact this
    ·have hg:av ((s[n+1]?).getD 0)=false:=by rw[List.getElem?_eq_none (by omega)];rfl
     rw[cW (by omega),cond_false]
     have:=hfin (x:=false) (a:=0) (b:=0) (c:=0) (d:=0) (t:=[]) (by rw[hdig,h1,hg];rfl)
     rw[hdig,h1]at this
     exact this
   ·have h1:decide (s[n]=46)=false:=by simp[h46]
    rw[h1,cond_false]
    have:=hfin (x:=false) (a:=0) (b:=0) (c:=0) (d:=0) (t:=[]) (by rw[hdig,h1];rfl)
    rw[hdig,h1]at this
    exact this
end
end Go.Abs
set_option linter.unusedVariables false
set_option linter.unusedSimpArgs false
set_option maxRecDepth 100000
namespace Go.Abs
open Go Go.Proofs
def iy:Except Int (Tok×Nat×List Nat)→Except Int (Tok×Nat)
 | .ok q=> .ok (q.1,q.2.1)
 | .error e=> .error e
section
variable {s:List UInt8}{n:Nat}
theorem Bp (q:Except Int (Tok×Nat)):iy (noK q)=q:=by cases q<;>rfl
theorem fP:iy (dw s n)=cE s n:=by
 unfold dw
 cases cE s n<;>rfl
theorem lq: ∀w∈bK,w≠fe∧w≠en:=by decide
theorem k8 {w:List UInt8}(hw:w∈cj)(hb:bv s n w=true):w=cP false s n:=((fh (gI w hw) hb).2.1).symm
theorem yU {l:List (List UInt8)}{p:List UInt8→Bool}{w:List UInt8}(hm:w∈l)(hp:p w=true)(hu: ∀x∈l,p x=true→x=w):l.find? p=some w:=by
 cases hf:l.find? p with
 |none=>
  rw[List.find?_eq_none]at hf
  exact absurd hp (hf w hm)
 |some x=>
  have h1:=List.find?_some hf
  have h2:=List.mem_of_find?_eq_some hf
  rw[hu x h2 h1]
theorem rZ {l:List (List UInt8)}{p:List UInt8→Bool}(h: ∀x∈l,p x=false):l.find? p=none:=by
 rw[List.find?_eq_none]
 intro x hx
 rw[h x hx]
 simp
theorem jC {w:List UInt8}(h:w∈bK):w∈cj:=by rw[gJ];exact List.mem_append_left _ h
theorem lL {w:List UInt8}(h:w∈([fe,en]:List (List UInt8))):w∈cj:=by rw[gJ];exact List.mem_append_right _ h
theorem RB (h:atC false s n=46):tO s n=if(br false s n).2.2 then .ok (cD (br false s n).1,(br false s n).2.1)else .error 7:=by
 have e:br false s n=(cP false s n,dotEnd false s n,dY false s n):=by unfold br;rw[if_pos h]
 have hany:=J5 h
 rw[e]at hany ⊢
 simp only at hany ⊢
 unfold tO z6
 cases hok:dY false s n with
 |false=>
  rw[hok]at hany
  have hno: ∀w∈cj,bv s n w=false:=by
   intro w hw
   cases hb:bv s n w with
   |false=>rfl
   |true=>
    have:cj.any (bv s n)=true:=List.any_eq_true.2 ⟨w,hw,hb⟩
    rw[hany]at this;cases this
  rw[rZ (fun x hx=>hno x (jC hx)),rZ (fun x hx=>hno x (lL hx))]
  rfl
 |true=>
  rw[hok]at hany
  rw[List.any_eq_true]at hany
  obtain⟨w,hw,hb⟩:=hany
  have hT:=k8 hw hb
  have hE:=(fh (gI w hw) hb).2.2.2
  rw[←hT,hE]
  rw[gJ,List.mem_append]at hw
  simp only[if_true]
  rcases hw with hw|hw
  ·rw[yU hw hb (fun x hx hp=>by rw[k8 (jC hx) hp,←hT])]
   have:=lq w hw
   unfold cD
   rw[if_neg (by intro hh;rcases hh with hh|hh;exact this.1 hh;exact this.2 hh)]
  ·rw[rZ (fun x hx=> ?_),yU hw hb (fun x hx hp=>by rw[k8 (lL hx) hp,←hT])]
   ·unfold cD
    rw[if_pos (by simpa using hw)]
   ·cases hbx:bv s n x with
    |false=>rfl
    |true=>
     have h1:=k8 (jC hx) hbx
     rw[←hT]at h1
     have:=lq x hx
     rw[h1]at this
     simp only[List.mem_cons,List.not_mem_nil,or_false]at hw
     rcases hw with hw|hw
     ·exact absurd hw this.1
     ·exact absurd hw this.2
theorem tZ {c:UInt8}(h:aY c=true):c.toNat<128:=by
 unfold aY at h
 simp only[Bool.or_eq_true,decide_eq_true_eq]at h
 rcases h with(h|h)|h
 ·exact ld h
 ·have:=cm.1 h;omega
 ·omega
theorem MW:up (cw false aY s n)=((s.drop n).takeWhile aY).map upB:=by
 rw[da m8]
 exact kZ _ fun b hb=>tZ (eE _ b hb)
def beg (c:UInt8)(d:Option UInt8):List UInt8→Bool
 |[x]=>decide (c=x)
 |[x,y]=>decide (c=x)&&decide (d=some y)
 |_=>false
theorem CK: ∀i:Fin 256,aV (UInt8.ofNat i.val)=false→upB (UInt8.ofNat i.val)=UInt8.ofNat i.val:=by decide
theorem CJ {c:UInt8}(h:aV c=false):upB c=c:=by
 have:=CK ⟨c.toNat,c.toNat_lt⟩
 simpa[h]using this
theorem CM: ∀i:Fin 256,∀y∈([61,42,47,62]:List UInt8),(upB (UInt8.ofNat i.val)=y↔UInt8.ofNat i.val=y):=by decide
theorem O3 {c y:UInt8}(hy:y∈([61,42,47,62]:List UInt8)):upB c=y↔c=y:=by
 have:=CM ⟨c.toNat,c.toNat_lt⟩ y hy
 simpa using this
theorem Qa {c x:UInt8}(h:s[n]? =some c)(hl:aV c=false):bv s n [x]=beg c s[n+1]? [x]:=by
 have hn:=ge h
 rw[List.getElem?_eq_getElem hn]at h
 injection h with h
 unfold bv beg
 rw[List.drop_eq_getElem_cons hn,h]
 simp only[List.length_singleton,List.take_succ_cons,List.take_zero,List.map_cons,List.map_nil,CJ hl]
 have:decide (n+1≤s.length)=true:=by simp;omega
 rw[this,Bool.true_and]
 simp
theorem Qb {c x y:UInt8}(h:s[n]? =some c)(hl:aV c=false)(hy:y∈([61,42,47,62]:List UInt8)):bv s n [x,y]=beg c s[n+1]? [x,y]:=by
 have hn:=ge h
 rw[List.getElem?_eq_getElem hn]at h
 injection h with h
 unfold bv beg
 simp only[List.length_cons,List.length_nil]
 by_cases h2:n+1<s.length
 ·have:decide (n+(0+1+1)≤s.length)=true:=by simp;omega
  rw[this,Bool.true_and,List.drop_eq_getElem_cons hn,List.drop_eq_getElem_cons h2,List.getElem?_eq_getElem h2,h]
  simp only[List.take_succ_cons,List.take_zero,List.map_cons,List.map_nil,CJ hl]
  have:=O3 (c:=s[n+1]) hy
  by_cases h3:s[n+1]=y
  ·rw[this.2 h3,h3];simp
  ·have h4:upB s[n+1]≠y:=fun hh=>h3 (this.1 hh)
   simp[h3,h4]
 ·have:decide (n+(0+1+1)≤s.length)=false:=by simp;omega
  rw[this,List.getElem?_eq_none (by omega)]
  simp
def rP:List (List UInt8×List UInt8):=lZ++mq bj
theorem Lp (l m:List (List UInt8×List UInt8)): ∀r,fc s n (l++m) r=fc s n m (fc s n l r):=by
 induction l with
 |nil=>intro r;rfl
 |cons x l ih=>intro r;rw[List.cons_append,fc,fc,ih]
def tx (c:UInt8)(d:Option UInt8)(n:Nat):List (List UInt8×List UInt8)→Except Int (Tok×Nat)→Except Int (Tok×Nat)
 |[],r=>r
 |x::l,r=>tx c d n l (if beg c d x.1=true∧toE r<n+x.1.length then .ok (⟨2,0,x.2⟩,n+x.1.length)else r)
def Gf (x:List UInt8):Bool:=match x with|[_]=>true|[_,y]=>([61,42,47,62]:List UInt8).contains y|_=>false
theorem By {c:UInt8}(h:s[n]? =some c)(hl:aV c=false): ∀(l:List (List UInt8×List UInt8)) (r:Except Int (Tok×Nat)),(∀x∈l,Gf x.1=true)→fc s n l r=tx c s[n+1]? n l r
 |[],r,_=>rfl
 |x::l,r,hs=>by
  have hx:=hs x List.mem_cons_self
  have hb:bv s n x.1=beg c s[n+1]? x.1:=by
   obtain⟨x1,x2⟩:=x
   simp only at hx ⊢
   match x1,hx with
   |[a],_=>exact Qa h hl
   |[a,y],hy=>exact Qb h hl (List.contains_iff_mem.1 hy)
  rw[fc,tx,hb,By h hl l _ (fun y hy=>hs y (List.mem_cons_of_mem _ hy))]
theorem AX: ∀x∈rP,Gf x.1=true:=by decide
def opC (c:UInt8)(d:Option UInt8)(n:Nat):Except Int (Tok×Nat):=
 match el [c,d.getD 0]with
 |some w=> .ok (⟨2,0,w⟩,n+2)
 |none=>if d.getD 0≠0∧bj.contains [c,d.getD 0]then .ok (⟨2,0,[c,d.getD 0]⟩,n+2)
  else match el [c]with
   |some w=> .ok (⟨2,0,w⟩,n+1)
   |none=>if bj.contains [c]then .ok (⟨2,0,[c]⟩,n+1)else .error 7
theorem MI {a b:UInt8}{w:List UInt8}(h:el [a,b]=some w):b=61:=by
 unfold el at h
 simp only[List.cons.injEq,and_true]at h
 split at h
 ·rename_i h1;exact h1.2
 ·split at h
  ·rename_i h1;exact h1.2
  ·split at h
   ·rename_i h1;exact h1.2
   ·split at h
    ·rename_i h1;exact h1.2
    ·simp at h
theorem Mg {c:UInt8}(h:s[n]? =some c)(hc:c≠32):dQ false s n=opC c s[n+1]? n:=by
 obtain⟨ha,hb⟩:=oG (fx:=false) h hc
 unfold dQ opC
 simp only[ha,hb,ci,cI]
 by_cases h2:n+1<s.length
 ·rw[if_pos h2]<;>(cases el [c,(s[n+1]?).getD 0]<;>rfl)
 ·rw[if_neg h2,List.getElem?_eq_none (by omega)]
  cases hsp:el [c,(none:Option UInt8).getD 0]with
  |some w=>exact absurd (MI hsp) (by decide)
  |none=>
   simp only[Option.getD_none,ne_eq,not_true_eq_false,false_and,if_false]<;>(cases el [c]<;>rfl)
theorem Qs (c:UInt8)(d:Option UInt8)(n:Nat):tx c d n rP (.error 7)=opC c d n:=by
 have hd:d=none∨d=some 61∨d=some 42∨d=some 47∨d=some 62∨ ∃x,d=some x∧x≠61∧x≠42∧x≠47∧x≠62:=by
  cases d with
  |none=>exact Or.inl rfl
  |some x=>
   by_cases h1:x=61
   ·exact Or.inr (Or.inl (by rw[h1]))
   ·by_cases h2:x=42
    ·exact Or.inr (Or.inr (Or.inl (by rw[h2])))
    ·by_cases h3:x=47
     ·exact Or.inr (Or.inr (Or.inr (Or.inl (by rw[h3]))))
     ·by_cases h4:x=62
      ·exact Or.inr (Or.inr (Or.inr (Or.inr (Or.inl (by rw[h4])))))
      ·exact Or.inr (Or.inr (Or.inr (Or.inr (Or.inr ⟨x,rfl,h1,h2,h3,h4⟩))))
 have hL: ∀(x:UInt8),x∈([60,62,61,47,42,43,45,40,41,44,58,37]:List UInt8)∨x ∉([60,62,61,47,42,43,45,40,41,44,58,37]:List UInt8):=fun x=>Classical.em _
 rcases hL c with hm|hm
 ·simp only[List.mem_cons,List.not_mem_nil,or_false]at hm
  rcases hm with rfl|rfl|rfl|rfl|rfl|rfl|rfl|rfl|rfl|rfl|rfl|rfl<;>rcases hd with rfl|rfl|rfl|rfl|rfl|⟨x,rfl,h1,h2,h3,h4⟩<;>
   simp[tx,rP,lZ,mq,bj,beg,toE,opC,el, *]
 ·simp only[List.mem_cons,List.not_mem_nil,or_false,not_or]at hm
  obtain⟨n1,n2,n3,n4,n5,n6,n7,n8,n9,n10,n11,n12⟩:=hm
  simp[tx,rP,lZ,mq,bj,beg,toE,opC,el,n1,n2,n3,n4,n5,n6,n7,n8,n9,n10,n11,n12]
theorem Qc {c:UInt8}(h:s[n]? =some c)(hc:c≠32)(hl:aV c=false):p6 s n=dQ false s n:=by
 have e:p6 s n=fc s n rP (.error 7):=(Lp lZ (mq bj) _).symm
 rw[e,By h hl _ _ AX,Qs,Mg h hc]
theorem QH {c:UInt8}(h:s[n]? =some c)(hc:c≠32):Ah s n c=iy (ct false s n c):=by
 obtain⟨ha,hb⟩:=oG (fx:=false) h hc
 unfold Ah ct
 by_cases hl:aV c=true
 ·rw[if_pos hl,if_pos hl,MW,da m8,db m8]
  split<;>rfl
 ·rw[if_neg hl,if_neg hl]
  have hl':aV c=false:=by simpa using hl
  have e2:atC false s (n+1)=(s[n+1]?).getD 0:=rfl
  rw[e2]
  by_cases hd:(av c||(decide (c=46)&&av ((s[n+1]?).getD 0)))=true
  ·rw[if_pos hd,if_pos hd,Bp]
   refine qx h ?_
   rw[Bool.or_eq_true,Bool.and_eq_true,decide_eq_true_eq]at hd
   exact hd
  ·rw[if_neg hd,if_neg hd]
   by_cases h46:c=46
   ·rw[if_pos h46,if_pos h46,RB (by rw[ha,h46])]
    split<;>rfl
   ·rw[if_neg h46,if_neg h46]
    by_cases hq:c=39∨c=34
    ·rw[if_pos hq,if_pos hq,fP]
    ·rw[if_neg hq,if_neg hq,Bp,Qc h hc hl']
def qd {α:Type}:Except Int α→Prop
 | .ok _=>True
 | .error e=>e=4∨e=7∨e=8∨e=28
theorem Bt {q:Except Int (Tok×Nat)}(h:qd q):qd (noK q):=by cases q<;>exact h
theorem Jf:qd (cE s n):=by
 unfold cE
 split
 ·exact Or.inr (Or.inl rfl)
 ·split
  ·exact Or.inr (Or.inr (Or.inl rfl))
  ·trivial
theorem OM {whole part digits:List UInt8}{letter:UInt8}{ok:Bool}{e:Nat}:qd (real whole part digits letter ok e):=by
 unfold real
 split
 ·exact Or.inr (Or.inl rfl)
 ·trivial
theorem I6 {fx:Bool}:qd (b9 fx s n):=by
 unfold b9
 simp only
 split
 ·unfold cg
  split
  ·exact trivial
  ·rename_i e he
   split at he
   ·injection he with he
    subst he
    exact Or.inr (Or.inr (Or.inr rfl))
   ·cases he
 ·exact OM
theorem SY {fx:Bool}:qd (dQ fx s n):=by
 unfold dQ
 simp only
 split
 ·trivial
 ·split
  ·trivial
  ·split
   ·trivial
   ·split
    ·trivial
    ·exact Or.inr (Or.inl rfl)
theorem zB {fx:Bool}{out:List Tok}:qd (d5 fx s out n):=by
 unfold d5
 split
 ·unfold oe
  split
  ·exact Or.inr (Or.inl rfl)
  ·trivial
 ·unfold ct
  split
  ·split
   ·exact Or.inl rfl
   ·trivial
  ·split
   ·exact Bt I6
   ·split
    ·split
     ·trivial
     ·exact Or.inr (Or.inl rfl)
    ·split
     ·have:=Jf (s:=s) (n:=n)
      unfold dw
      cases hq:cE s n with
      |ok q=>trivial
      |error e=>rw[hq]at this;exact this
     ·exact Bt SY
end
end Go.Abs
set_option linter.unusedVariables false
set_option maxRecDepth 100000
namespace Go.Abs
open Go Go.Proofs
theorem FJ (E:Env): ∀n,LimR (evn E) (evn E n)
 |0=>⟨fun f args μ r h=>(by simp[evn]at h),fun H lv c s μ r h=>(by simp[evn]at h),fun H lv c s μ r h=>(by simp[evn]at h),fun f pv args μ r h=>(by simp[evn]at h)⟩
 |n+1=>by
  have ih:=FJ E n
  refine⟨fun f args μ r h=> ?_,fun H lv c s μ r h=> ?_,fun H lv c s μ r h=> ?_,fun f pv args μ r h=> ?_⟩
  ·obtain⟨N,hN⟩:=se ih (E:=E) (f:=f) (args:=args) (μ:=μ) r h
   refine⟨N+1,fun m hm=> ?_⟩
   obtain⟨q,rfl⟩: ∃q,m=q+1:=⟨m-1,by omega⟩
   exact hN q (by omega)
  ·obtain⟨N,hN⟩:=wY ih (P:=E.P) (H:=H) (lv:=lv) (c:=c) (s:=s) (μ:=μ) r h
   refine⟨N+1,fun m hm=> ?_⟩
   obtain⟨q,rfl⟩: ∃q,m=q+1:=⟨m-1,by omega⟩
   exact hN q (by omega)
  ·obtain⟨N,hN⟩:=BG ih (P:=E.P) (H:=H) (lv:=lv) (c:=c) (s:=s) (μ:=μ) r h
   refine⟨N+1,fun m hm=> ?_⟩
   obtain⟨q,rfl⟩: ∃q,m=q+1:=⟨m-1,by omega⟩
   exact hN q (by omega)
  ·obtain⟨N,hN⟩:=qR ih (E:=E) (f:=f) (pv:=pv) (args:=args) (μ:=μ) r h
   refine⟨N+1,fun m hm=> ?_⟩
   obtain⟨q,rfl⟩: ∃q,m=q+1:=⟨m-1,by omega⟩
   exact hN q (by omega)
theorem RP {E:Env}{n:Nat}{f:FuncId}{args:List LV}{μ:Mu}{out:Out}(h:(evn E n).call f args μ=some out):(ev E).call f args μ=some out:=
 nb ((FJ E n).call f args μ out h)
theorem J9:(evn E 150).call 11 [] []=some (.ret (LV.bool true) []):=by kernel_rfl
theorem Tt:(ev E).call 11 [] []=some (.ret (LV.bool true) []):=RP J9
end Go.Abs
set_option linter.unusedVariables false
set_option linter.unusedSimpArgs false
set_option maxRecDepth 100000
namespace Go.Abs
open Go Go.Proofs
section
variable {μ:Mu}{s:List UInt8}
theorem mw {out:List Tok}{n:Nat}:d5 false s out n=ct false s n ((s[n]?).getD 0):=by
 unfold d5 vK
 rfl
noncomputable def He (μ:Mu):Option (Nat×Int)×List Tok×List Nat→St
 |(none,out,_)=>u1 (aw out) μ
 |(some (n,e),_,_)=>u0 [] (n:Int) e μ
theorem S8 (hs:s.length≤200000){out:List Tok}{st:St}: ∀(k n:Nat),aQ (s.drop n)=k→n≤s.length→th (ev E) s (aw out) ((n+k:Nat):Int) μ=some st→th (ev E) s (aw out) (n:Int) μ=some st:=by
 have e32: ∀c:UInt8,decide ((c.toNat:Int)=32)=decide (c=32):=fun c=>cq (k:=32) (by omega)
 intro k
 induction k with
 |zero=>intro n hb hn h;exact h
 |succ k ih=>
  intro n hb hn h
  have hlt:n<s.length:=by
   rcases Nat.lt_or_ge n s.length with h1|h1
   ·exact h1
   ·rw[List.drop_eq_nil_of_le h1]at hb;simp[aQ]at hb
  rw[List.drop_eq_getElem_cons hlt,aQ]at hb
  by_cases hc:s[n]=32
  ·rw[if_pos hc]at hb
   refine ba ?_
   have:decide (s[n]=32)=true:=by simp[hc]
   rw[yq,cL hlt,cond_true,co hlt,aa,e32,this,cond_true,bU (by omega)]
   refine ih (n+1) (by omega) hlt ?_
   have:n+1+k=n+(k+1):=by omega
   rw[this]
   exact h
  ·rw[if_neg hc]at hb;cases hb
theorem Sr (hs:s.length≤200000): ∀(k n:Nat) (out:List Tok) (kept:List Nat),s.length<n+k→n≤s.length→out.length≤n→
  th (ev E) s (aw out) (n:Int) μ=some (He μ (bS false s k n out kept)):=by
 have e32: ∀c:UInt8,decide ((c.toNat:Int)=32)=decide (c=32):=fun c=>cq (k:=32) (by omega)
 intro k
 induction k with
 |zero=>intro n out kept hk hn ho;omega
 |succ k ih=>
  intro n out kept hk hn ho
  have hb:=ju (s.drop n)
  rw[List.length_drop]at hb
  refine S8 hs _ n rfl hn ?_
  unfold bS
  by_cases hm:s.length≤n+aQ (s.drop n)
  ·rw[if_pos hm]
   refine ba ?_
   rw[yq,cW hm,cond_false]
   rfl
  ·rw[if_neg hm]
   have hlt:n+aQ (s.drop n)<s.length:=by omega
   obtain⟨c,hc1,hc2⟩:=p8 hlt
   obtain⟨m,hmd⟩: ∃m,m=n+aQ (s.drop n):=⟨_,rfl⟩
   rw[←hmd]at hlt hc1 ⊢
   have hg:s[m]=c:=by rw[List.getElem?_eq_getElem hlt]at hc1;simpa using hc1
   have hf:=mv (fx:=false) (out:=out) hc1 hc2
   have he:=zB (s:=s) (n:=m) (fx:=false) (out:=out)
   have hT:d5 false s out m=ct false s m c:=by rw[mw,hc1];rfl
   have hN:=QH hc1 hc2
   rw[←hT]at hN
   refine ba ?_
   have h32:decide (c=32)=false:=by simp[hc2]
   rw[yq,cL hlt,cond_true,co hlt,aa,e32,hg,h32,cond_false]
   cases ht:d5 false s out m with
   |error e=>
    rw[ht]at he hN
    have hG:Gy (ev E) s (aw out) (m:Int) μ=some (uJ [] (m:Int) e μ):=by
     refine aT ?_
     rw[FO,PJ hs hlt,hg,hN,ac,nS]
     simp only[iy,stB]
     have:decide (e=0)=false:=by
      simp only[decide_eq_false_iff_not]
      rcases he with h|h|h|h<;>rw[h]<;>decide
     rw[this]
     rfl
    rw[hG,aa,HQ]
    rfl
   |ok q=>
    rw[ht]at hf hN
    obtain⟨f1,f2,f3⟩:=hf
    have ha:[CV.agg [CV.int .i64 q.1.kind,CV.int .i64 q.1.type,CV.str q.1.text]]=aw [q.1]:=rfl
    have happ:aw out++aw [q.1]=aw (out++[q.1]):=by simp[aw]
    have hG:Gy (ev E) s (aw out) (m:Int) μ=some (uK s (aw (out++[q.1])) (q.2.1:Int) μ):=by
     refine aT ?_
     have hG12:JA (ev E) s (aw out) q.1.kind q.1.type q.1.text (q.2.1:Int) 0 μ=some (ro s (aw (out++[q.1])) (q.2.1:Int) μ):=by
      refine aT ?_
      rw[N9,ha,p3 (by simp;omega),ay,happ]
     rw[FO,PJ hs hlt,hg,hN,ac,nS]
     simp only[iy,stB]
     rw[decide_true,Bool.not_true,cond_false,hG12,aa,DG]
    rw[hG,aa,HR]
    exact ih q.2.1 _ _ (by omega) f2 (by simp;omega)
theorem sQ {fx:Bool}: ∀(k n:Nat) (out:List Tok) (kept:List Nat) (m:Nat) (e:Int),(bS fx s k n out kept).1=some (m,e)→e≠0
 |0,n,out,kept,m,e,h=>by simp[bS]at h
 |k+1,n,out,kept,m,e,h=>by
  unfold bS at h
  split at h
  ·cases h
  ·have he:=zB (s:=s) (n:=n+aQ (s.drop n)) (fx:=fx) (out:=out)
   cases ht:d5 fx s out (n+aQ (s.drop n))with
   |error x=>
    rw[ht]at h he
    simp only[Option.some.injEq,Prod.mk.injEq]at h
    obtain⟨_,rfl⟩:=h
    rcases he with h|h|h|h<;>rw[h]<;>decide
   |ok q=>
    rw[ht]at h
    exact sQ k _ _ _ m e h
theorem PC (hs:s.length≤200000):(ev E).call 18 [LV.str s] μ=some (.ret (.ltup [if bp s=0 then LV.cv (CV.sl (aw (bX false s)))else yu,LV.int .i64 ((bb false s).n:Int),LV.int .i64 (bb false s).e]) μ):=by
 refine aJ ?_
 rw[U2,PG hs]
 simp only[ac,aq,aa,ak,am,ah,ae,aj,ay,cond_true,cond_false,Bool.not_true,Bool.not_false,au,ar,ao]
 by_cases ht:bp s=0
 ·have h1:decide (bp s=0)=true:=by simp[ht]
  rw[h1,Bool.not_true,cond_false,if_pos ht]
  have hl:=Sr (μ:=μ) hs (s.length+1) 0 [] [] (by omega) (by omega) (by simp)
  have e0:((0:Nat):Int)=0:=rfl
  have et:aw []=[]:=rfl
  rw[e0,et]at hl
  have hne:=sQ (s:=s) (fx:=false) (s.length+1) 0 [] []
  obtain⟨r,hr⟩: ∃r,bS false s (s.length+1) 0 [] []=r:=⟨_,rfl⟩
  rw[hr]at hl hne
  have hsc:bb false s=if(ck r.1).2=0 then(if 300<r.2.1.length then⟨r.2.1,r.2.2,0,8⟩else⟨r.2.1,r.2.2,r.2.1.length,0⟩)else⟨r.2.1,r.2.2,(ck r.1).1,(ck r.1).2⟩:=by
   unfold bb;rw[if_pos ht,hr]
  have hG:Pb (ev E) s μ=some (mR (aw (bX false s)) ((bb false s).n:Int) (bb false s).e μ):=by
   refine aT ?_
   rw[QP,hl,aa]
   unfold bX
   rw[hsc]
   obtain⟨x,o,q⟩:=r
   have hlen:(aw o).length=o.length:=by simp[aw]
   cases x with
   |none=>
    have hz:(ck (none:Option (Nat×Int))).2=0:=rfl
    rw[if_pos hz]
    simp only[He]
    rw[Iw,hlen]
    by_cases h3:300<o.length
    ·have:decide ((300:Int)<(o.length:Int))=true:=by simp;omega
     rw[this,cond_true,if_pos h3]
     rfl
    ·have:decide ((300:Int)<(o.length:Int))=false:=by simp;omega
     rw[this,cond_false,if_neg h3]
     rfl
   |some w=>
    obtain⟨m,e⟩:=w
    have he:=hne m e rfl
    have hz: ¬(ck (some (m,e))).2=0:=he
    rw[if_neg hz]
    simp only[He]
    rw[Iv]
    have hz2:(if(ck (some (m,e))).2=0 then o else [])=[]:=if_neg hz
    simp only[hz2]
    rfl
  rw[hG,aa,HP]
 ·have h1:decide (bp s=0)=false:=by simp[ht]
  have hsc:bb false s=⟨[],[],0,bp s⟩:=by unfold bb;rw[if_neg ht]
  rw[h1,Bool.not_false,cond_true,if_neg ht,hsc]
  rfl
theorem zw {fx:Bool}: ∀(k n:Nat) (out:List Tok) (kept:List Nat),out.length≤n→n≤s.length→(bS fx s k n out kept).2.1.length≤s.length
 |0,n,out,kept,h1,h2=>by unfold bS;simp only;omega
 |k+1,n,out,kept,h1,h2=>by
  unfold bS
  split
  ·simp only;omega
  ·rename_i hm
   obtain⟨c,hc1,hc2⟩:=p8 (s:=s) (n:=n) (by omega)
   have hf:=mv (fx:=fx) (out:=out) hc1 hc2
   cases ht:d5 fx s out (n+aQ (s.drop n))with
   |error e=>simp only;omega
   |ok q=>
    rw[ht]at hf
    obtain⟨f1,f2,f3⟩:=hf
    exact zw k q.2.1 _ _ (by simp;omega) f2
theorem OQ {fx:Bool}:(bX fx s).length≤s.length:=by
 unfold bX bb
 have:=zw (s:=s) (fx:=fx) (s.length+1) 0 [] [] (by simp) (by omega)
 split
 ·split
  ·simp only
   split
   ·split<;>exact this
   ·exact this
  ·simp
 ·simp
end
end Go.Abs
set_option linter.unusedVariables false
set_option linter.unusedSimpArgs false
set_option maxRecDepth 100000
namespace Go.Abs
open Go Go.Proofs
section
variable {μ:Mu}{s:List UInt8}
theorem OA: ∀i:Fin 256,(decide ((97:Int)≤IntKind.wrap .i64 (IntKind.wrap .u8 ((BitVec.ofInt (IntKind.bits .u8) (i.val:Int) ||| BitVec.ofInt (IntKind.bits .u8) (32:Int)).toNat:Int)))&&decide (IntKind.wrap .i64 (IntKind.wrap .u8 ((BitVec.ofInt (IntKind.bits .u8) (i.val:Int) ||| BitVec.ofInt (IntKind.bits .u8) (32:Int)).toNat:Int))≤(122:Int)))=aV (UInt8.ofNat i.val):=by decide
theorem LA {c:UInt8}:(ev E).call 133 [LV.int .u8 (c.toNat:Int)] μ=some (.ret (LV.bool (aV c)) μ):=by
 refine aJ ?_
 have h:=OA ⟨c.toNat,UInt8.toNat_lt c⟩
 have e:UInt8.ofNat c.toNat=c:=by simp
 rw[e]at h
 rw[T7,wV]
 simp only[ac,aq,aa,ak,am,ah,ae,aj,ay,cond_true,cond_false,Bool.not_true,Bool.not_false,au,ar,ao]
 rw[←h]
theorem RW {c:UInt8}:(ev E).call 114 [LV.int .u8 (c.toNat:Int)] μ=some (.ret (LV.bool (av c)) μ):=by
 refine aJ ?_
 have hc:=UInt8.toNat_lt c
 rw[TZ,cu (by omega) (by omega),wV]
 simp only[ac,aq,aa,ak,am,ah,ae,aj,ay,cond_true,cond_false,Bool.not_true,Bool.not_false,au,ar,ao]
 have h1:decide ((48:Int)≤(c.toNat:Int))=decide (48≤c.toNat):=by simp;omega
 have h2:decide ((c.toNat:Int)≤(57:Int))=decide (c.toNat≤57):=by simp;omega
 rw[h1,h2]
 rfl
theorem SJ (hs:s.length≤200000): ∀(k n:Nat),n+k=s.length→wk (ev E) s (s.length:Int) (n:Int) μ=some (if(s.drop n).all aY then vz μ else vy false μ):=by
 intro k
 induction k with
 |zero=>
  intro n hn
  refine ba ?_
  rw[Gb,cW (by omega),cond_false]
  have:s.drop n=[]:=List.drop_eq_nil_of_le (by omega)
  rw[this]
  rfl
 |succ k ih=>
  intro n hn
  refine ba ?_
  have hlt:n<s.length:=by omega
  have hd:s.drop n=s[n]::s.drop (n+1):=List.drop_eq_getElem_cons hlt
  rw[Gb,cL hlt,cond_true,co hlt,aa,LA,bU (by omega),ih (n+1) (by omega),hd,List.all_cons]
  simp only[ac,aq,aa,ak,am,ah,ae,aj,ay,cond_true,cond_false,Bool.not_true,Bool.not_false,au,ar,ao,RW]
  rw[ih (n+1) (by omega)]
  have h1:decide ((s[n].toNat:Int)=95)=decide (s[n].toNat=95):=by simp;omega
  rw[h1]
  unfold aY
  cases aV s[n]<;>cases av s[n]<;>cases decide (s[n].toNat=95)<;>simp
def lI (p:UInt8→Bool)(s:List UInt8):Bool:=match s with|[]=>false|c::_=>p c
def qt (s:List UInt8):Bool:=decide (s.length≤31)&&lI aV s&&s.all aY
theorem TW (hs:s.length≤200000):(ev E).call 95 [LV.str s] μ=some (.ret (LV.bool (qt s)) μ):=by
 refine aJ ?_
 rw[VG]
 cases s with
 |nil=>rfl
 |cons c r=>
  have h0:decide (c::r=[])=false:=by simp
  have h1:bn (c::r) 0=some c:=rfl
  rw[h0,cond_false,h1,aa,LA]
  simp only[ac,aq,aa,ak,am,ah,ae,aj,ay,cond_true,cond_false,Bool.not_true,Bool.not_false,au,ar,ao]
  have hG:Pq (ev E) (c::r) μ=some (pO ((c::r).all aY) μ):=by
   refine aT ?_
   have:=SJ (μ:=μ) hs (c::r).length 0 (by omega)
   have e0:((0:Nat):Int)=0:=rfl
   rw[e0,List.drop_zero]at this
   rw[Q7,this,aa]
   cases (c::r).all aY with
   |true=>rw[if_pos rfl,I2]
   |false=>rw[if_neg (by simp),I1]
  rw[hG,aa,Ip]
  unfold qt
  rw[show lI aV (c::r)=aV c from rfl]
  have h2:decide ((31:Int)<((c::r).length:Int))= !decide ((c::r).length≤31):=by
   by_cases h:(c::r).length≤31
   ·rw[decide_eq_true h];exact decide_eq_false (by omega)
   ·rw[decide_eq_false h];exact decide_eq_true (by omega)
  rw[h2]
  generalize(c::r).all aY=y
  cases decide ((c::r).length≤31)<;>cases aV c<;>rfl
def j8 (c:UInt8):Bool:=decide (97≤c.toNat)&&decide (c.toNat≤122)
theorem SC (hs:s.length≤200000): ∀(k n:Nat),n+k=s.length→zV (ev E) s (n:Int) μ=some (if(s.drop n).any j8 then vk false μ else vm μ):=by
 intro k
 induction k with
 |zero=>
  intro n hn
  refine ba ?_
  rw[F3,cW (by omega),cond_false]
  have:s.drop n=[]:=List.drop_eq_nil_of_le (by omega)
  rw[this]
  rfl
 |succ k ih=>
  intro n hn
  refine ba ?_
  have hlt:n<s.length:=by omega
  have hd:s.drop n=s[n]::s.drop (n+1):=List.drop_eq_getElem_cons hlt
  rw[F3,cL hlt,cond_true,co hlt,aa,aa,bU (by omega),ih (n+1) (by omega),hd,List.any_cons]
  have h1:decide ((97:Int)≤(s[n].toNat:Int))=decide (97≤s[n].toNat):=by simp;omega
  have h2:decide ((s[n].toNat:Int)≤122)=decide (s[n].toNat≤122):=by simp;omega
  rw[h1,h2]
  unfold j8
  cases decide (97≤s[n].toNat)<;>cases decide (s[n].toNat≤122)<;>simp
def gK (s:List UInt8):Bool:=qt s&& !s.any j8
theorem TI (hs:s.length≤200000):(ev E).call 53 [LV.str s] μ=some (.ret (LV.bool (gK s)) μ):=by
 refine aJ ?_
 rw[Vk,TW hs]
 simp only[ac,aq,aa,ak,am,ah,ae,aj,ay,cond_true,cond_false,Bool.not_true,Bool.not_false,au,ar,ao]
 have hG:Pi (ev E) s μ=some (pH (!s.any j8) μ):=by
  refine aT ?_
  have:=SC (μ:=μ) hs s.length 0 (by omega)
  have e0:((0:Nat):Int)=0:=rfl
  rw[e0,List.drop_zero]at this
  rw[QY,this,aa]
  cases s.any j8 with
  |true=>rw[if_pos rfl,IN];rfl
  |false=>rw[if_neg (by simp),IP];rfl
 rw[hG,aa,Ia]
 unfold gK
 cases qt s<;>rfl
def Ca (b:UInt8):Bool:= !((decide (97≤b.toNat)&&decide (b.toNat≤122))||(decide (65≤b.toNat)&&decide (b.toNat≤90))||(decide (48≤b.toNat)&&decide (b.toNat≤57))||decide (b.toNat=95))
theorem Md:Ca=fun b=> !aY b:=by
 funext b
 unfold Ca aY aV av
 rfl
theorem xW {p:UInt8→Bool}: ∀(l:List UInt8),(!l.any fun b=> !p b)=l.all p
 |[]=>rfl
 |c::r=>by rw[List.any_cons,List.all_cons,Bool.not_or,xW r,Bool.not_not]
theorem Ew: ∀i:Fin 256,(upB (UInt8.ofNat i.val)=UInt8.ofNat i.val)↔j8 (UInt8.ofNat i.val)=false:=by decide
theorem Rz (c:UInt8):upB c=c↔j8 c=false:=by
 have:=Ew ⟨c.toNat,UInt8.toNat_lt c⟩
 simpa using this
theorem iW: ∀(l:List UInt8),l.map upB=l↔l.any j8=false
 |[]=>by simp
 |c::r=>by
  rw[List.map_cons,List.any_cons,List.cons.injEq,Rz,iW r,Bool.or_eq_false_iff]
theorem TH (hs:s.length≤200000):(ev E).call 49 [LV.str s] μ=some (.ret (LV.bool (gK s)) μ):=by
 refine aJ ?_
 rw[Vg]
 cases s with
 |nil=>rfl
 |cons c r=>
  have h0:decide (c::r=[])=false:=by simp
  have h1:bn (c::r) 0=some c:=rfl
  rw[h0,Bool.not_false,cond_true,h1,aa,Ad]
  simp only[ac,aq,aa,ak,am,ah,ae,aj,ay,cond_true,cond_false,Bool.not_true,Bool.not_false,au,ar,ao]
  rw[Hx (s:=c::r) (by omega)]
  simp only[ac,aq,aa,ak,am,ah,ae,aj,ay,cond_true,cond_false,Bool.not_true,Bool.not_false,au,ar,ao]
  rw[Hs (g:=92) (p:=Ca) rfl]
  simp only[ac,aq,aa,ak,am,ah,ae,aj,ay,cond_true,cond_false,Bool.not_true,Bool.not_false,au,ar,ao]
  unfold gK qt
  rw[show lI aV (c::r)=aV c from rfl,Md,xW]
  have h2:decide (((c::r).length:Int)≤31)=decide ((c::r).length≤31):=by
   by_cases h:(c::r).length≤31
   ·rw[decide_eq_true h];simp only[decide_eq_true_eq];omega
   ·rw[decide_eq_false h];simp only[decide_eq_false_iff_not];omega
  rw[h2]
  cases hp:(c::r).all aY with
  |false=>cases decide ((c::r).length≤31)<;>cases aV c<;>cases decide (Lib.toUpperD (c::r)=c::r)<;>simp
  |true=>
   have hu:Lib.toUpperD (c::r)=(c::r).map upB:=kZ _ fun b hb=>tZ (List.all_eq_true.1 hp b hb)
   have h3:decide (Lib.toUpperD (c::r)=c::r)= !(c::r).any j8:=by
    rw[hu]
    cases hl:(c::r).any j8 with
    |false=>rw[decide_eq_true ((iW _).2 hl)];rfl
    |true=>rw[decide_eq_false (fun e=>by rw[(iW _).1 e]at hl;cases hl)];rfl
   rw[h3]
   cases decide ((c::r).length≤31)<;>cases aV c<;>cases (c::r).any j8<;>simp
theorem SD {l:List (List UInt8)}{x:List UInt8}(hl:l.length≤1000000): ∀(k j:Nat) (b:Bool),j+k=l.length→
  zW (ev E) x b (bw l) (l.length:Int) (j:Int) μ=some (vn (b||(l.drop j).contains x) μ):=by
 intro k
 induction k with
 |zero=>
  intro j b hj
  refine ba ?_
  rw[F4,cW (by omega),cond_false]
  have:l.drop j=[]:=List.drop_eq_nil_of_le (by omega)
  rw[this]
  simp
 |succ k ih=>
  intro j b hj
  refine ba ?_
  have hlt:j<l.length:=by omega
  have hd:l.drop j=l[j]::l.drop (j+1):=List.drop_eq_getElem_cons hlt
  have hg:(bw l)[j]? =some (CV.str l[j]):=by simp[bw,hlt]
  rw[F4,cL hlt,cond_true,e7,hg,aa,g7,aa,bU (by omega),ih (j+1) _ (by omega),ih (j+1) _ (by omega),hd,List.contains_cons]
  have e:(x == l[j])=decide (l[j]=x):=by
   by_cases h:l[j]=x
   ·simp[h]
   ·have: ¬x=l[j]:=fun e=>h e.symm
    simp[h,this]
  rw[e]
  cases b<;>simp
theorem PI {l:List (List UInt8)}{x:List UInt8}(hl:l.length≤1000000):(ev E).call 54 [LV.cv (CV.sl (bw l)),LV.str x] μ=some (.ret (LV.bool (l.contains x)) μ):=by
 refine aJ ?_
 have e:(bw l).length=l.length:=by simp[bw]
 have:=SD (μ:=μ) (l:=l) (x:=x) hl l.length 0 false (by omega)
 have e0:((0:Nat):Int)=0:=rfl
 rw[e0,List.drop_zero,Bool.false_or]at this
 rw[Vl,e,this,aa,IQ]
def B9 (b:UInt8):Bool:=decide (b.toNat<48)||decide (57<b.toNat)
theorem Mc:B9=fun b=> !av b:=by
 funext b
 unfold B9 av
 rw[Bool.not_and]
 congr 1
 ·by_cases h:48≤b.toNat
  ·rw[decide_eq_true h,decide_eq_false (by omega)];rfl
  ·rw[decide_eq_false h,decide_eq_true (by omega)];rfl
 ·by_cases h:b.toNat≤57
  ·rw[decide_eq_true h,decide_eq_false (by omega)];rfl
  ·rw[decide_eq_false h,decide_eq_true (by omega)];rfl
def ec (t:List UInt8):Bool:=decide (t.length≤10)&&t.all av&&lI (fun c=> !decide (c=48)||decide (t=[48])) t
def dN (k:Int)(t:List UInt8):Int:=
 if k=0 then(if ec t then(if 2147483647<valD 0 t then 28 else 0)else 3)
 else if k=1∨k=2∨k=5∨k=6 then(if eZ t=some ⟨1,k,t⟩then 0 else 3)else 15
theorem qE {k:Int}(hs:s.length≤200000){b:Bool}(hb:b=decide (k=1∨k=2∨k=5∨k=6))(hk:k≠0):
  (opt (mJ (ev E) k s b μ) (kB (ev E) 12 H12 [.block 0,.seq (cA 12 [1,1])]))=some (.ret (LV.int .i64 (dN k s)) μ):=by
 subst hb
 by_cases h:k=1∨k=2∨k=5∨k=6
 ·have:mJ (ev E) k s (decide (k=1∨k=2∨k=5∨k=6)) μ=some (gT (dN k s) μ):=by
   refine aT ?_
   rw[BO,decide_eq_true h,cond_true,TG hs]
   unfold dN
   rw[if_neg hk,if_pos h]
   simp only[ac,aq,aa,ak,am,ah,ae,aj,ay,cond_true,cond_false,Bool.not_true,Bool.not_false,au,ar,ao]
   cases hq:eZ s with
   |none=>rfl
   |some t=>
    simp only[S0,ac,aq,aa,ak,am,ah,ae,aj,ay,cond_true,cond_false,Bool.not_true,Bool.not_false,au,ar,ao,bx]
    obtain⟨a,b,c⟩:=t
    simp only
    by_cases h1:a=1
    ·by_cases h2:b=k
     ·by_cases h3:c=s
      ·subst h1;subst h2;subst h3
       simp
      ·have: ¬(some (Tok.mk a b c)=some (Tok.mk 1 k s)):=fun e=>h3 (by injection e with e;injection e)
       rw[if_neg this,decide_eq_true h1,decide_eq_true h2,decide_eq_false h3];rfl
     ·have: ¬(some (Tok.mk a b c)=some (Tok.mk 1 k s)):=fun e=>h2 (by injection e with e;injection e)
      rw[if_neg this,decide_eq_true h1,decide_eq_false h2];rfl
    ·have: ¬(some (Tok.mk a b c)=some (Tok.mk 1 k s)):=fun e=>h1 (by injection e with e;injection e)
     rw[if_neg this,decide_eq_false h1];rfl
  rw[this,aa,Dm]
 ·have:mJ (ev E) k s (decide (k=1∨k=2∨k=5∨k=6)) μ=some (rh μ):=by
   refine aT ?_
   rw[BO,decide_eq_false h,cond_false]
  rw[this,aa,Dn]
  unfold dN
  rw[if_neg hk,if_neg h]
theorem UT {t:List UInt8}(h1:t.length≤10)(h2:t.all av=true)(h3:t≠[]):b7 t=(valD 0 t:Nat):=by
 unfold b7
 rw[dJ (fun b hb=>List.all_eq_true.1 h2 b hb) h3 h1]
theorem Ro {t:List UInt8}(h1:t.length≤10)(h2:t.all av=true)(h3:t≠[]):
  (opt (zQ (ev E) t μ) (kB (ev E) 12 H12 [.block 0,.seq (cA 12 [1,1])]))=some (.ret (LV.int .i64 (if 2147483647<valD 0 t then 28 else 0)) μ):=by
 have:zQ (ev E) t μ=some (pr (if 2147483647<valD 0 t then 28 else 0) μ):=by
  refine aT ?_
  rw[QK,Aa (by omega),p4,UT h1 h2 h3]
  simp only[ac,aq,aa,ak,am,ah,ae,aj,ay,cond_true,cond_false,Bool.not_true,Bool.not_false,au,ar,ao,fi]
  by_cases h:2147483647<valD 0 t
  ·rw[if_pos h,show decide ((2147483647:Int)<((valD 0 t:Nat):Int))=true by simp;omega];rfl
  ·rw[if_neg h,show decide ((2147483647:Int)<((valD 0 t:Nat):Int))=false by simp;omega];rfl
 rw[this,aa,HI]
theorem Tu {k:Int}(hs:s.length≤200000):(ev E).call 12 [LV.int .i64 k,LV.str s] μ=some (.ret (LV.int .i64 (dN k s)) μ):=by
 refine aJ ?_
 rw[UX]
 by_cases h0:k=0
 ·subst h0
  rw[decide_eq_true rfl,cond_true]
  unfold dN ec
  rw[if_pos rfl]
  cases s with
  |nil=>rfl
  |cons c r=>
   have e0:decide (c::r=[])=false:=by simp
   have e1:bn (c::r) 0=some c:=rfl
   have e2:decide ((10:Int)<((c::r).length:Int))= !decide ((c::r).length≤10):=by
    by_cases h:(c::r).length≤10
    ·rw[decide_eq_true h];exact decide_eq_false (by omega)
    ·rw[decide_eq_false h];exact decide_eq_true (by omega)
   have e3:decide ((c.toNat:Int)=48)=decide (c=48):=cq (k:=48) (by omega)
   rw[e0,cond_false,e1,e2,Hs (g:=44) (p:=B9) rfl,Mc]
   simp only[ac,aq,aa,ak,am,ah,ae,aj,ay,cond_true,cond_false,Bool.not_true,Bool.not_false,au,ar,ao]
   rw[e3]
   have e4:((c::r).any fun b=> !av b)= !(c::r).all av:=by rw[←xW (p:=av),Bool.not_not]
   rw[e4]
   show _=some (Out.ret (LV.int .i64 (if(decide ((c::r).length≤10)&&(c::r).all av&&(!decide (c=48)||decide (c::r=[48])))=true then(if 2147483647<valD 0 (c::r)then 28 else 0)else 3)) μ)
   by_cases h1:(c::r).length≤10
   ·cases h2:(c::r).all av with
    |false=>rw[decide_eq_true h1];rfl
    |true=>
     rw[Ro h1 h2 (by simp),decide_eq_true h1]
     cases decide (c=48)<;>cases decide (c::r=[48])<;>simp
   ·rw[decide_eq_false h1];rfl
 ·rw[decide_eq_false h0,cond_false]
  by_cases h1:k=1
  ·rw[decide_eq_true h1,cond_true]
   exact qE hs (by rw[decide_eq_true (Or.inl h1)]) h0
  ·rw[decide_eq_false h1,cond_false]
   by_cases h2:k=2
   ·rw[decide_eq_true h2,cond_true]
    exact qE hs (by rw[decide_eq_true (Or.inr (Or.inl h2))]) h0
   ·rw[decide_eq_false h2,cond_false]
    by_cases h5:k=5
    ·rw[decide_eq_true h5,cond_true]
     exact qE hs (by rw[decide_eq_true (Or.inr (Or.inr (Or.inl h5)))]) h0
    ·rw[decide_eq_false h5,cond_false]
     exact qE hs (by simp[h1,h2,h5]) h0
def gw (t:Tok):Int:=
 if t.kind=1 then dN t.type t.text
 else if t.kind=0∨t.kind=2 then
  if t.type=0 then(if t.kind=0 then(if gK t.text then 0 else 4)else(if bK.contains t.text||bj.contains t.text then 0 else 7))else 3
 else 15
theorem OS {a b:Int}(ha:a=0∨a=2):Au (ev E) a b s μ=some (jo (if a=0 then 0 else(if bK.contains s||bj.contains s then 0 else 7)) μ):=by
 refine aT ?_
 rw[NW]
 rcases ha with rfl|rfl
 ·rfl
 ·rw[decide_eq_true rfl,cond_true,PH,ac,ar,aa,wW (by decide)]
  simp only[ac,aq,aa,ak,am,ah,ae,aj,ay,cond_true,cond_false,Bool.not_true,Bool.not_false,au,ar,ao]
  rw[Ht,ac,ar,aa,wW (by decide)]
  simp only[ac,aq,aa,ak,am,ah,ae,aj,ay,cond_true,cond_false,Bool.not_true,Bool.not_false,au,ar,ao]
  rw[if_neg (by decide)]
  cases bK.contains s<;>cases bj.contains s<;>rfl
theorem Rs {a b:Int}(hs:s.length≤200000)(ha:a=0∨a=2):Pa (ev E) a b s μ=some (py (if a=0 then(if gK s then 0 else 4)else(if bK.contains s||bj.contains s then 0 else 7)) μ):=by
 refine aT ?_
 rw[QO,TH hs]
 simp only[ac,aq,aa,ak,am,ah,ae,aj,ay,cond_true,cond_false,Bool.not_true,Bool.not_false,au,ar,ao]
 rw[OS ha,aa,Dq]
 rcases ha with rfl|rfl
 ·rw[decide_eq_true rfl,cond_true]
  cases gK s<;>rfl
 ·rfl
theorem Tw {t:Tok}(hs:t.text.length≤200000):(ev E).call 14 [LV.cv t.cv] μ=some (.ret (LV.int .i64 (gw t)) μ):=by
 refine aJ ?_
 obtain⟨a,b,s⟩:=t
 show aC E (ev E) 14 [LV.cv (CV.agg [CV.int .i64 a,CV.int .i64 b,CV.str s])] μ=_
 rw[UZ,Tu hs]
 simp only[ac,aq,aa,ak,am,ah,ae,aj,ay,cond_true,cond_false,Bool.not_true,Bool.not_false,au,ar,ao]
 unfold gw
 simp only
 by_cases h1:a=1
 ·rw[if_pos h1,decide_eq_true h1,cond_true]
 ·rw[if_neg h1,decide_eq_false h1,cond_false]
  have key: ∀x:Bool,x=decide (a=0∨a=2)→(opt (we (ev E) x a b s μ) (kB (ev E) 14 H14 [.block 0,.seq (cA 14 [1,1])]))=
    some (.ret (LV.int .i64 (if a=0∨a=2 then(if b=0 then(if a=0 then(if gK s then 0 else 4)else(if bK.contains s||bj.contains s then 0 else 7))else 3)else 15)) μ):=by
   intro x hx
   subst hx
   by_cases h:a=0∨a=2
   ·have:we (ev E) (decide (a=0∨a=2)) a b s μ=some (px (if b=0 then(if a=0 then(if gK s then 0 else 4)else(if bK.contains s||bj.contains s then 0 else 7))else 3) μ):=by
     refine aT ?_
     rw[FN,decide_eq_true h,cond_true,Rs hs h,aa,HO]
     by_cases hb:b=0
     ·rw[decide_eq_true hb,if_pos hb];rfl
     ·rw[decide_eq_false hb,if_neg hb];rfl
    rw[this,aa,HM,if_pos h]
   ·have:we (ev E) (decide (a=0∨a=2)) a b s μ=some (uI μ):=by
     refine aT ?_
     rw[FN,decide_eq_false h,cond_false]
    rw[this,aa,HN,if_neg h]
  by_cases h0:a=0
  ·rw[decide_eq_true h0,cond_true]
   exact key _ (by rw[decide_eq_true (Or.inl h0)])
  ·rw[decide_eq_false h0,cond_false]
   exact key _ (by simp[h0])
end
end Go.Abs
set_option linter.unusedVariables false
set_option linter.unusedSimpArgs false
set_option maxRecDepth 100000
namespace Go.Abs
open Go Go.Proofs
section
variable {μ:Mu}{s:List UInt8}
def xm (k:Int)(t:List UInt8):Int:=if(bb false t).e=0∧bX false t=[⟨1,k,t⟩]then 0 else 3
def qC (k:Int)(t:List UInt8):Int:=if 122<t.length∨bp t≠0 then 3 else xm k t
theorem UA {l:List Tok}:bL (if bp s=0 then LV.cv (CV.sl (aw (bX false s)))else yu)=some (aw (bX false s)):=by
 by_cases ht:bp s=0
 ·rw[if_pos ht];rfl
 ·rw[if_neg ht]
  have hsc:bb false s=⟨[],[],0,bp s⟩:=by unfold bb;rw[if_neg ht]
  have:bX false s=[]:=by unfold bX;rw[hsc];exact if_neg ht
  rw[this];rfl
theorem Ru {t:Tok}{k:Int}{s:List UInt8}:(decide (t.kind=1)&&(decide (t.type=k)&&(decide (t.text=s)&&true)))=decide (t=⟨1,k,s⟩):=by
 obtain⟨a,b,c⟩:=t
 exact xD ⟨a,b,c⟩ ⟨1,k,s⟩
theorem Rr {k:Int}(hs:s.length≤200000):O9 (ev E) k s μ=some (ku (xm k s) μ):=by
 refine aT ?_
 rw[QN,PC hs]
 simp only[ac,aq,aa,ak,am,ah,ae,aj,ay,cond_true,cond_false,Bool.not_true,Bool.not_false,au,ar,ao]
 rw[UA (l:=[]),aa]
 unfold xm
 by_cases he:(bb false s).e=0
 ·rw[decide_eq_true he,Bool.not_true,cond_false]
  have hl:(aw (bX false s)).length=(bX false s).length:=by simp[aw]
  rw[hl]
  match h:bX false s with
  |[]=>rw[if_neg (by simp)];rfl
  |[t]=>
   have e1:bY (aw [t]) (0:Int)=some t.cv:=rfl
   rw[show decide ((([t]:List Tok).length:Int)=1)=true from rfl,Bool.not_true,cond_false,e1,aa,bx,Ru]
   by_cases ht:t=⟨1,k,s⟩
   ·rw[decide_eq_true ht,if_pos ⟨he,by rw[ht]⟩];rfl
   ·rw[decide_eq_false ht,if_neg (fun e=>ht (by simpa using e.2))];rfl
  |a::b::r=>
   have:decide (((a::b::r).length:Int)=1)=false:=by simp;omega
   rw[this,if_neg (by simp)];rfl
 ·rw[decide_eq_false he,if_neg (fun e=>he e.1)];rfl
theorem Rq {k:Int}(hs:s.length≤200000):tf (ev E) k s μ=some (mQ (qC k s) μ):=by
 refine aT ?_
 rw[QM,PG hs]
 simp only[ac,aq,aa,ak,am,ah,ae,aj,ay,cond_true,cond_false,Bool.not_true,Bool.not_false,au,ar,ao]
 rw[Rr hs,aa,HL]
 unfold qC
 by_cases h1:122<s.length
 ·rw[if_pos (Or.inl h1),show decide ((122:Int)<(s.length:Int))=true from decide_eq_true (by omega)];rfl
 ·rw[show decide ((122:Int)<(s.length:Int))=false from decide_eq_false (by omega),cond_false]
  by_cases h2:bp s=0
  ·rw[decide_eq_true h2,if_neg (by simp[h1,h2])];rfl
  ·rw[decide_eq_false h2,if_pos (Or.inr h2)];rfl
def vQ (t:List UInt8):Bool:=decide (t.length=10)&&(decide (digR t 0=10)&&(lI (fun c=> !decide (c=48)) t&& !(Op.bytesLess t cM||decide (t=cM))))
def xn (k:Int)(t:List UInt8):Int:=
 if !(decide (0≤k)&&decide (k≤6))||(decide (k=3)||decide (k=4))then 15
 else if k=0∧vQ t=true then 28 else qC k t
theorem Rp {k:Int}(hs:s.length≤200000):O8 (ev E) k s μ=some (mP (if k=0∧vQ s=true then 28 else qC k s) μ):=by
 refine aT ?_
 rw[QL]
 have h47:=Ab (μ:=μ) hs (n:=0) (Nat.zero_le _)
 have e0:((0:Nat):Int)=0:=rfl
 rw[e0]at h47
 rw[h47]
 simp only[ac,aq,aa,ak,am,ah,ae,aj,ay,cond_true,cond_false,Bool.not_true,Bool.not_false,au,ar,ao]
 rw[Rq hs,aa,HK]
 by_cases h0:k=0
 ·rw[decide_eq_true h0,cond_true]
  unfold vQ
  by_cases h1:s.length=10
  ·rw[show decide ((s.length:Int)=10)=true from decide_eq_true (by omega),cond_true,decide_eq_true h1]
   by_cases h2:digR s 0=10
   ·rw[show decide ((digR s 0:Int)=10)=true from decide_eq_true (by omega),cond_true,decide_eq_true h2]
    match s,h1 with
    |c::r,h1=>
     have e3:decide ((c.toNat:Int)=48)=decide (c=48):=cq (k:=48) (by omega)
     rw[show bn (c::r) 0=some c from rfl,aa,e3]
     show _=some (mP (if k=0∧(true&&(true&&(!decide (c=48)&& !(Op.bytesLess (c::r) cM||decide (c::r=cM)))))=true then 28 else qC k (c::r)) μ)
     simp only[h0,true_and,Bool.true_and]
     have e4:([50,49,52,55,52,56,51,54,52,55]:List UInt8)=cM:=rfl
     rw[e4]
     cases decide (c=48)<;>cases (Op.bytesLess (c::r) cM||decide (c::r=cM))<;>rfl
   ·rw[show decide ((digR s 0:Int)=10)=false from decide_eq_false (by omega),cond_false,decide_eq_false h2]
    simp
  ·rw[show decide ((s.length:Int)=10)=false from decide_eq_false (by omega),cond_false,decide_eq_false h1]
   simp
 ·rw[decide_eq_false h0,cond_false,if_neg (by simp[h0])]
theorem Tv {k:Int}(hs:s.length≤200000):(ev E).call 13 [LV.int .i64 k,LV.str s] μ=some (.ret (LV.int .i64 (xn k s)) μ):=by
 refine aJ ?_
 rw[UY,wV]
 simp only[ac,aq,aa,ak,am,ah,ae,aj,ay,cond_true,cond_false,Bool.not_true,Bool.not_false,au,ar,ao]
 rw[Rp hs,aa,HJ]
 unfold xn
 cases decide (0≤k)<;>cases decide (k≤6)<;>cases decide (k=3)<;>cases decide (k=4)<;>rfl
def Jg (t:Tok):Int:=
 if !(decide (0≤t.kind)&&decide (t.kind≤2))then 15
 else if t.kind=1 then xn t.type t.text
 else if t.type=0 then(if t.kind=0 then(if gK t.text then 0 else 4)else(if bK.contains t.text||bj.contains t.text then 0 else 7))
 else 3
theorem Tx {t:Tok}(hs:t.text.length≤200000):(ev E).call 15 [LV.cv t.cv] μ=some (.ret (LV.int .i64 (Jg t)) μ):=by
 refine aJ ?_
 obtain⟨a,b,s⟩:=t
 show aC E (ev E) 15 [LV.cv (CV.agg [CV.int .i64 a,CV.int .i64 b,CV.str s])] μ=_
 rw[U0,wV]
 simp only[ac,aq,aa,ak,am,ah,ae,aj,ay,cond_true,cond_false,Bool.not_true,Bool.not_false,au,ar,ao]
 rw[Tv hs,TI hs,Hu]
 simp only[ac,aq,aa,ak,am,ah,ae,aj,ay,cond_true,cond_false,Bool.not_true,Bool.not_false,au,ar,ao]
 rw[PI (by decide)]
 simp only[ac,aq,aa,ak,am,ah,ae,aj,ay,cond_true,cond_false,Bool.not_true,Bool.not_false,au,ar,ao]
 rw[Hv]
 simp only[ac,aq,aa,ak,am,ah,ae,aj,ay,cond_true,cond_false,Bool.not_true,Bool.not_false,au,ar,ao]
 rw[PI (by decide)]
 simp only[ac,aq,aa,ak,am,ah,ae,aj,ay,cond_true,cond_false,Bool.not_true,Bool.not_false,au,ar,ao]
 unfold Jg
 simp only
 by_cases h1:a=1
 ·subst h1;rfl
 ·rw[decide_eq_false h1,cond_false,if_neg h1]
  cases decide (0≤a)<;>cases decide (a≤2)<;>try rfl
  rw[Bool.and_self,Bool.not_true,cond_false,if_neg (by simp)]
  by_cases hb:b=0
  ·rw[decide_eq_true hb,if_pos hb,Bool.not_true,cond_false]
   by_cases ha:a=0
   ·rw[decide_eq_true ha,if_pos ha,cond_true]
    cases gK s<;>rfl
   ·rw[decide_eq_false ha,if_neg ha,cond_false]
    cases bK.contains s<;>cases bj.contains s<;>rfl
  ·rw[decide_eq_false hb,if_neg hb];rfl
end
end Go.Abs
set_option linter.unusedVariables false
set_option linter.unusedSimpArgs false
namespace Go.Abs
open Go Go.Proofs
theorem jx {n:Nat}(h:n<10):Lib.decDigits n=[UInt8.ofNat (48+n)]:=Lib.decDigits_one h
theorem tv {n:Nat}(h: ¬n<10):Lib.decDigits n=Lib.decDigits (n / 10)++[UInt8.ofNat (48+n % 10)]:=by
 rw[Lib.decDigits,dif_neg h]
theorem nH {d:Nat}(h:d<10):av (UInt8.ofNat (48+d))=true∧(UInt8.ofNat (48+d)).toNat=48+d:=by
 have:(UInt8.ofNat (48+d)).toNat=48+d:=UInt8.toNat_ofNat_of_lt' (by show 48+d<256;omega)
 exact⟨cm.2 (by omega),this⟩
theorem gC: ∀(n:Nat),∀b∈Lib.decDigits n,av b=true:=by
 intro n
 induction n using Nat.strongRecOn with
 |_ n ih=>
  intro b hb
  by_cases h:n<10
  ·rw[jx h]at hb
   rw[List.mem_singleton.1 hb]
   exact(nH h).1
  ·rw[tv h]at hb
   rcases List.mem_append.1 hb with h1|h1
   ·exact ih (n / 10) (by omega) b h1
   ·rw[List.mem_singleton.1 h1]
    exact(nH (by omega)).1
theorem iM: ∀(n:Nat),valD 0 (Lib.decDigits n)=n:=by
 intro n
 induction n using Nat.strongRecOn with
 |_ n ih=>
  by_cases h:n<10
  ·rw[jx h,du,ip,(nH h).2];omega
  ·rw[tv h,CN,ih (n / 10) (by omega),(nH (d:=n % 10) (by omega)).2];omega
theorem vC: ∀(n:Nat),gO (Lib.decDigits n):=by
 intro n
 induction n using Nat.strongRecOn with
 |_ n ih=>
  by_cases h:n<10
  ·rw[jx h];exact Or.inl rfl
  ·rw[tv h]
   rcases ih (n / 10) (by omega)with h1|⟨c,r,h1,h2⟩
   ·match h3:Lib.decDigits (n / 10),h1 with
    |[c],_=>
     refine Or.inr ⟨c,_,rfl,fun e=> ?_⟩
     have:=iM (n / 10)
     rw[h3,e]at this
     have h48:valD 0 [(48:UInt8)]=0:=rfl
     omega
   ·rw[h1];exact Or.inr ⟨c,_,rfl,h2⟩
theorem fo: ∀(k n:Nat),1≤k→n<10^k→(Lib.decDigits n).length≤k
 |0,n,h,_=>absurd h (by omega)
 |1,n,_,h=>by rw[jx (by simpa using h)];exact Nat.le_refl _
 |k+2,n,_,h=>by
  by_cases h9:n<10
  ·rw[jx h9];simp
  ·rw[tv h9,List.length_append]
   have:=fo (k+1) (n / 10) (by omega) (by rw[Nat.pow_succ]at h;exact(Nat.div_lt_iff_lt_mul (by omega)).2 h)
   simp only[List.length_cons,List.length_nil]
   omega
def m4 (t:Tok):Prop:=t.kind=1→t.text.length≤122∧(t.type=0→ ∃n:Nat,n≤2147483647∧t.text=Lib.decDigits n)∧(t.type=6→ ∃u:List UInt8,u.length≤60∧t.text=bh u)
def qg {β:Type}:Except Int (Tok×β)→Prop
 | .ok q=>m4 q.1
 | .error _=>True
section
variable {s:List UInt8}{fx:Bool}{n:Nat}
theorem FE {q:Except Int (Tok×Nat)}(h:qg q):qg (noK q):=by cases q<;>exact h
theorem wB {t:List UInt8}(h:t.length≤60):m4 ⟨1,6,bh t⟩:=by
 intro _
 have:=mD t
 refine⟨?_,fun e=>absurd e (by simp),fun _=>⟨t,h,rfl⟩⟩
 show (bh t).length≤122
 unfold bh
 simp only[List.length_append,List.length_cons,List.length_nil]
 omega
theorem Eh:qg (cE s n):=by
 unfold cE
 split
 ·trivial
 ·split
  ·trivial
  ·exact wB (by omega)
theorem Mw {whole part digits:List UInt8}{letter:UInt8}{ok:Bool}{e:Nat}:qg (real whole part digits letter ok e):=by
 unfold real
 split
 ·trivial
 ·rename_i hl
  unfold jH at hl
  simp only[Bool.or_eq_true,decide_eq_true_eq,not_or]at hl
  have h1:=iD (dr whole)
  have h2:=iD (bT part)
  have h3:(ey digits ok).length≤21:=by
   unfold ey
   split
   ·exact Lib.itoa_length_le _ (iS digits).1 (iS digits).2
   ·simp
  have h4:(ed whole part).length≤33:=by
   unfold ed
   simp only[List.length_append,List.length_cons,List.length_nil]
   omega
  unfold dh
  show m4 _
  split
  ·exact fun _=>⟨by simp only[List.length_append,List.length_cons,List.length_nil];omega,fun e=>absurd e (by simp),fun e=>absurd e (by simp)⟩
  ·split
   ·exact fun _=>⟨by simp only;omega,fun e=>absurd e (by simp),fun e=>absurd e (by simp)⟩
   ·exact fun _=>⟨by simp only[List.length_append,List.length_cons,List.length_nil];omega,fun e=>absurd e (by simp),fun e=>absurd e (by simp)⟩
theorem BA {d:List UInt8}(hd: ∀b∈d,av b=true){t:Tok}(h:cg d= .ok t):m4 t:=by
 unfold cg at h
 split at h
 ·cases h
 ·rename_i hh
  simp only[not_or]at hh
  injection h with h
  subst h
  obtain⟨h1,h2,h3⟩:=hh
  have h0:d≠[]:=fun e=>h2 (by rw[e];rfl)
  have hN:b7 d=(valD 0 d:Nat):=by unfold b7;rw[dJ hd h0 (by omega)]
  rw[hN]at h3 ⊢
  intro _
  have hT:Lib.itoa ((valD 0 d:Nat):Int)=Lib.decDigits (valD 0 d):=g8
  have hs:=fo 10 (valD 0 d) (by omega) (by omega)
  exact⟨by show (Lib.itoa ((valD 0 d:Nat):Int)).length≤122;rw[hT];omega,fun _=>⟨valD 0 d,by omega,hT⟩,fun e=>absurd e (by simp)⟩
theorem D6:qg (b9 fx s n):=by
 unfold b9
 simp only
 split
 ·split
  ·rename_i t ht
   exact BA (fun b hb=>im b hb) ht
  ·trivial
 ·exact Mw
theorem jB {t:Tok}(h:t.kind≠1):m4 t:=fun e=>absurd e h
theorem Ri:qg (dQ fx s n):=by
 unfold dQ
 simp only
 split
 ·exact jB (by show (2:Int)≠1;decide)
 ·split
  ·exact jB (by show (2:Int)≠1;decide)
  ·split
   ·exact jB (by show (2:Int)≠1;decide)
   ·split
    ·exact jB (by show (2:Int)≠1;decide)
    ·trivial
theorem O2:fe.length=6∧en.length=7:=by decide
theorem M1 {w:List UInt8}:m4 (cD w):=by
 unfold cD
 split
 ·rename_i h
  have:=O2
  refine fun _=>⟨?_,fun e=>absurd e (by simp),fun e=>absurd e (by simp)⟩
  rcases h with h|h<;>(simp only[h];omega)
 ·exact jB (by simp)
theorem Jp {out:List Tok}:qg (d5 fx s out n):=by
 unfold d5
 split
 ·rename_i h
  simp only[Bool.and_eq_true,decide_eq_true_eq]at h
  obtain⟨_,h1,h2,h3,h4⟩:=h
  unfold oe
  split
  ·trivial
  ·refine wB ?_
   rw[List.length_take]
   omega
 ·unfold ct
  split
  ·split
   ·trivial
   ·exact jB (by simp)
  ·split
   ·exact FE D6
   ·split
    ·split
     ·exact M1
     ·trivial
    ·split
     ·have:=Eh (s:=s) (n:=n)
      unfold dw
      cases hq:cE s n with
      |ok q=>rw[hq]at this;exact this
      |error e=>trivial
     ·exact FE Ri
theorem xA: ∀(k n:Nat) (out:List Tok) (kept:List Nat),(∀t∈out,m4 t)→ ∀t∈(bS fx s k n out kept).2.1,m4 t:=by
 intro k
 induction k with
 |zero=>intro n out kept h;exact h
 |succ k ih=>
  intro n out kept h
  unfold bS
  split
  ·exact h
  ·have hf:=Jp (fx:=fx) (s:=s) (n:=n+aQ (s.drop n)) (out:=out)
   split
   ·exact h
   ·rename_i q hq
    rw[hq]at hf
    refine ih _ _ _ fun t ht=> ?_
    rcases List.mem_append.1 ht with h1|h1
    ·exact h t h1
    ·rw[List.mem_singleton.1 h1];exact hf
theorem zs {t:Tok}(h:t∈bX fx s):m4 t:=by
 unfold bX at h
 split at h
 ·unfold bb at h
  split at h
  ·simp only at h
   split at h
   ·split at h<;>exact xA _ _ _ _ (fun _ h=>absurd h (by simp)) _ h
   ·exact xA _ _ _ _ (fun _ h=>absurd h (by simp)) _ h
  ·simp at h
 ·simp at h
theorem gr {t:Tok}:eZ s=some t↔(bb false s).e=0∧bX false s=[t]:=by
 unfold eZ bX
 constructor
 ·intro h
  split at h
  ·rename_i h1
   obtain⟨_,hl,_⟩:=kQ h1.1
   refine⟨h1.1,?_⟩
   rw[if_pos h1.1]
   rw[h1.2]at hl
   obtain⟨x,hx⟩:=List.length_eq_one_iff.1 hl.symm
   rw[hx]at h ⊢
   simp at h
   rw[h]
  ·cases h
 ·rintro⟨h1,h2⟩
  obtain⟨_,hl,_⟩:=kQ h1
  rw[if_pos h1]at h2
  rw[h2]at hl
  rw[if_pos ⟨h1,hl⟩,h2]
  rfl
theorem My {k:Int}:xm k s=if eZ s=some ⟨1,k,s⟩then 0 else 3:=by
 unfold xm
 by_cases h:eZ s=some ⟨1,k,s⟩
 ·rw[if_pos h,if_pos (gr.1 h)]
 ·rw[if_neg h,if_neg (fun e=>h (gr.2 e))]
theorem Cp {k:Int}:qC k s=if eZ s=some ⟨1,k,s⟩then 0 else 3:=by
 unfold qC
 split
 ·rename_i h
  rw[if_neg ?_]
  intro e
  obtain⟨h1,h2⟩:=gr.1 e
  have hf:m4 ⟨1,k,s⟩:=zs (s:=s) (fx:=false) (by rw[h2];exact List.mem_singleton.2 rfl)
  rcases h with h|h
  ·have:=(hf rfl).1
   simp only at this
   omega
  ·exact h (kQ h1).1
 ·exact My
theorem jz:ec s=true↔s.length≤10∧(∀b∈s,av b=true)∧gO s:=by
 unfold ec
 rw[Bool.and_eq_true,Bool.and_eq_true,decide_eq_true_eq,List.all_eq_true,and_assoc]
 refine and_congr_right fun _=>and_congr_right fun hd=> ?_
 match s with
 |[]=>
  constructor
  ·intro h;cases h
  ·rintro(h|⟨c,r,h,_⟩)<;>simp at h
 |c::r=>
  show (!decide (c=48)||decide (c::r=[48]))=true↔_
  rw[Bool.or_eq_true,Bool.not_eq_true',decide_eq_false_iff_not,decide_eq_true_eq]
  constructor
  ·rintro(h|h)
   ·exact Or.inr ⟨c,r,rfl,h⟩
   ·rw[h];exact Or.inl rfl
  ·rintro(h|⟨c',r',h,h2⟩)
   ·simp only[List.length_cons]at h
    have:r=[]:=List.eq_nil_of_length_eq_zero (by omega)
    subst this
    by_cases hc:c=48
    ·subst hc;exact Or.inr rfl
    ·exact Or.inl hc
   ·injection h with h3 h4
    subst h3
    exact Or.inl h2
theorem NA (hs:digR s 0=s.length): ∀b∈s,av b=true:=by
 unfold digR at hs
 rw[List.drop_zero]at hs
 have h1:(s.takeWhile av).length=s.length:=hs
 have h2:s.takeWhile av=s:=(List.takeWhile_prefix av).eq_of_length h1
 intro b hb
 rw[←h2]at hb
 exact eE _ b hb
theorem fX {p:UInt8→Bool}: ∀(l:List UInt8),(∀b∈l,p b=true)→l.takeWhile p=l
 |[],_=>rfl
 |c::r,h=>by rw[List.takeWhile_cons,h c (by simp),if_pos rfl,fX r fun b hb=>h b (List.mem_cons_of_mem _ hb)]
theorem vR:vQ s=true↔ec s=true∧2147483647<valD 0 s:=by
 constructor
 ·intro h
  unfold vQ at h
  simp only[Bool.and_eq_true,decide_eq_true_eq,Bool.not_eq_true',Bool.or_eq_false_iff,decide_eq_false_iff_not]at h
  obtain⟨h1,h2,h3,h4,h5⟩:=h
  have hd:=NA (s:=s) (by rw[h2,h1])
  refine⟨jz.2 ⟨by omega,hd,?_⟩,?_⟩
  ·match s,h1 with
   |c::r,_=>exact Or.inr ⟨c,r,rfl,by simpa[lI]using h3⟩
  ·rcases qn s cM (by rw[h1];rfl)with h|h|h
   ·rw[h]at h4;cases h4
   ·exact absurd h h5
   ·have:=na cM s (by rw[h1];rfl) qr hd h
    rw[kM]at this
    exact this
 ·rintro⟨h1,h2⟩
  obtain⟨a,b,c⟩:=jz.1 h1
  have h10:s.length=10:=by
   have hb:=(dL s 0 b).2
   by_cases h:s.length≤9
   ·have:10^s.length≤10^9:=Nat.pow_le_pow_right (by omega) h
    omega
   ·omega
  have e1:digR s 0=10:=by unfold digR;rw[List.drop_zero,fX s b,h10]
  have e2:lI (fun c=> !decide (c=48)) s=true:=by
   rcases c with c|⟨x,r,rfl,hx⟩
   ·omega
   ·simpa[lI]using hx
  have e3:Op.bytesLess s cM=false:=by
   cases h:Op.bytesLess s cM with
   |false=>rfl
   |true=>
    have:=na s cM (by rw[h10];rfl) b qr h
    rw[kM]at this
    omega
  have e4:s≠cM:=fun e=>by rw[e,kM]at h2;omega
  unfold vQ
  rw[decide_eq_true h10,decide_eq_true e1,e2,e3,decide_eq_false e4]
  rfl
theorem sP {t:Tok}{c:UInt8}{kept:List Nat}(hT:bp s=0)(h0:s[0]? =some c)(hc:c≠32)(h:ct false s 0 c= .ok (t,s.length,kept)):eZ s=some t:=by
 obtain⟨r,hs⟩: ∃r,s=c::r:=by
  cases s with
  |nil=>cases h0
  |cons x r=>simp at h0;exact⟨r,by rw[h0]⟩
 have hb0:aQ (s.drop 0)=0:=by
  rw[List.drop_zero,hs]
  unfold aQ
  simp[hc]
 have hg:(s[0]?).getD 0=c:=by rw[h0];rfl
 have htok:d5 false s [] 0= .ok (t,s.length,kept):=by rw[mw,hg,h]
 have hlen:s.length≠0:=by rw[hs];simp
 have hsp:bS false s (s.length+1) 0 [] []=(none,[t],kept):=by
  unfold bS
  rw[hb0,Nat.add_zero,if_neg (by omega),htok]
  simp only[List.nil_append]
  obtain⟨k,hk⟩: ∃k,s.length=k+1:=⟨s.length-1,by omega⟩
  rw[show bS false s s.length s.length [t] kept=bS false s (k+1) s.length [t] kept from by rw[←hk]]
  unfold bS
  rw[if_pos (by omega)]
 have hsc:bb false s=⟨[t],kept,1,0⟩:=by
  unfold bb
  rw[if_pos hT,hsp]
  rfl
 refine gr.2 ⟨by rw[hsc],?_⟩
 unfold bX
 rw[hsc]
 rfl
theorem Db (h1:ec s=true)(h2:valD 0 s≤2147483647):eZ s=some ⟨1,0,s⟩:=by
 obtain⟨a,b,c⟩:=jz.1 h1
 have h0:s≠[]:=by
  rintro rfl
  rcases c with c|⟨x,r,h,_⟩
  ·simp at c
  ·cases h
 have hT:bp s=0:=by
  unfold bp df
  rw[if_neg (by omega),if_pos]
  rw[Bool.not_eq_true',List.any_eq_false]
  intro x hx
  have:=cm.1 (b x hx)
  simp only[Bool.or_eq_true,decide_eq_true_eq,not_or]
  omega
 have hW:cw false av s 0=s:=by rw[da c8,List.drop_zero,fX s b]
 have hE:runE false av s 0=s.length:=by rw[db c8,List.drop_zero,fX s b,Nat.zero_add]
 have hA:atC false s s.length=0:=by rw[ci,List.getElem?_eq_none (Nat.le_refl _)];rfl
 have hD:cr false s 0=false:=by unfold cr;rw[hE,hA];rfl
 have hN:numEnd false s 0=s.length:=by unfold numEnd;rw[hD];exact hE
 have hX:(aP false s s.length).2.2.2=false:=by
  unfold aP
  have:ce false s s.length=0:=by unfold ce;rw[hA];rfl
  rw[this]
  rfl
 have hI:cg s= .ok ⟨1,0,s⟩:=by
  have ha:=dJ b h0 a
  have hv:b7 s=(valD 0 s:Nat):=by unfold b7;rw[ha]
  have hk:ja s=true:=by unfold ja;rw[ha]
  unfold cg
  rw[if_neg (by rw[hk,hv];simp;omega),hv,g8,yc s.length s rfl b c]
 have hnum:b9 false s 0= .ok (⟨1,0,s⟩,s.length):=by
  unfold b9
  simp only[hN,hX,hD]
  rw[show bG false s 0=s from hW,hI]
  rfl
 obtain⟨x,r,hs⟩: ∃x r,s=x::r:=by
  cases s with
  |nil=>exact absurd rfl h0
  |cons x r=>exact⟨x,r,rfl⟩
 have hx:av x=true:=b x (by rw[hs];simp)
 have hxl:aV x=false:=by
  have:=cm.1 hx
  unfold aV
  rw[Bool.or_eq_false_iff,Bool.and_eq_false_iff,Bool.and_eq_false_iff,decide_eq_false_iff_not,decide_eq_false_iff_not,decide_eq_false_iff_not]
  omega
 refine sP (c:=x) (kept:=[]) hT (by rw[hs];rfl) (fun e=>by rw[e]at hx;exact absurd hx (by decide)) ?_
 unfold ct
 rw[hxl,hx,hnum]
 rfl
theorem wO:eZ s=some ⟨1,0,s⟩↔ec s=true∧valD 0 s≤2147483647:=by
 constructor
 ·intro h
  obtain⟨h1,h2⟩:=gr.1 h
  have hf:m4 ⟨1,0,s⟩:=zs (s:=s) (fx:=false) (by rw[h2];exact List.mem_singleton.2 rfl)
  obtain⟨m,hm,ht⟩:=(hf rfl).2.1 rfl
  simp only at ht
  have hs:=fo 10 m (by omega) (by omega)
  refine⟨jz.2 ⟨by rw[ht];exact hs,by rw[ht];exact gC m,by rw[ht];exact vC m⟩,by rw[ht,iM];exact hm⟩
 ·rintro⟨h1,h2⟩
  exact Db h1 h2
theorem Nx (k:Int):dN k s=xn k s:=by
 unfold dN xn
 by_cases h0:k=0
 ·subst h0
  rw[if_pos rfl,Cp]
  simp only[true_and]
  rw[show (!(decide ((0:Int)≤0)&&decide ((0:Int)≤6))||(decide ((0:Int)=3)||decide ((0:Int)=4)))=false from rfl,if_neg (by simp: ¬(false=true))]
  by_cases hf:ec s=true
  ·rw[if_pos hf]
   by_cases hv:2147483647<valD 0 s
   ·rw[if_pos hv,if_pos (vR.2 ⟨hf,hv⟩)]
   ·rw[if_neg hv,if_neg (fun e=>hv (vR.1 e).2),if_pos (wO.2 ⟨hf,by omega⟩)]
  ·rw[if_neg hf,if_neg (fun e=>hf (vR.1 e).1),if_neg (fun e=>hf (wO.1 e).1)]
 ·rw[if_neg h0]
  simp only[h0,false_and,if_false]
  by_cases h:k=1∨k=2∨k=5∨k=6
  ·have hk:(!(decide (0≤k)&&decide (k≤6))||(decide (k=3)||decide (k=4)))=false:=by rcases h with rfl|rfl|rfl|rfl<;>decide
   rw[if_pos h,hk,if_neg (by simp: ¬(false=true)),Cp]
  ·rw[if_neg h,if_pos]
   simp only[Bool.or_eq_true,Bool.not_eq_true',Bool.and_eq_false_iff,decide_eq_false_iff_not,decide_eq_true_eq]
   omega
theorem O1 (t:Tok):gw t=Jg t:=by
 unfold gw Jg
 by_cases h1:t.kind=1
 ·rw[if_pos h1,if_neg (by rw[h1];decide),if_pos h1,Nx]
 ·rw[if_neg h1,if_neg h1]
  by_cases h:t.kind=0∨t.kind=2
  ·have hk:(!(decide (0≤t.kind)&&decide (t.kind≤2)))=false:=by rcases h with h|h<;>(rw[h];decide)
   rw[if_pos h,hk,if_neg (by simp: ¬(false=true))]
  ·rw[if_neg h,if_pos]
   simp only[Bool.not_eq_true',Bool.and_eq_false_iff,decide_eq_false_iff_not]
   omega
end
end Go.Abs
set_option linter.unusedVariables false
set_option linter.unusedSimpArgs false
set_option maxRecDepth 100000
namespace Go.Abs
open Go Go.Proofs
end Go.Abs
set_option linter.unusedVariables false
set_option linter.unusedSimpArgs false
set_option maxRecDepth 100000
namespace Go.Abs
open Go Go.Proofs
theorem wN: ∀(u:List UInt8),(∀b∈u,b≠39)→Lib.index u [39,39]= -1
 |[],_=>rfl
 |c::r,h=>by
  have hp:(([39,39]:List UInt8).isPrefixOf (c::r))=false:=by
   have:(39 == c)=false:=by simpa using fun e:39=c=>h c (by simp) e.symm
   simp[List.isPrefixOf,this]
  have:=wN r fun b hb=>h b (List.mem_cons_of_mem _ hb)
  simp only[Lib.index,hp,this]
  rfl
theorem sa: ∀(a l:List UInt8),(∀b∈a,b≠39)→Lib.index (a++39::39::l) [39,39]=(a.length:Int)
 |[],l,_=>by simp[Lib.index,List.isPrefixOf]
 |c::r,l,h=>by
  have hp:(([39,39]:List UInt8).isPrefixOf (c::(r++39::39::l)))=false:=by
   have:(39 == c)=false:=by simpa using fun e:39=c=>h c (by simp) e.symm
   simp[List.isPrefixOf,this]
  have h1:=sa r l fun b hb=>h b (List.mem_cons_of_mem _ hb)
  have hne:(Lib.index (r++39::39::l) [39,39] == -1)=false:=by rw[h1];simp;try omega
  rw[List.cons_append]
  simp only[Lib.index,hp,hne,h1]
  simp
theorem Gp (l:List UInt8):(∀b∈l,b≠39)∨ ∃a r,l=a++39::r∧ ∀b∈a,b≠39:=by
 rcases iV l 39 with⟨_,h⟩|⟨a,r,h1,h2,_⟩
 ·exact Or.inl h
 ·exact Or.inr ⟨a,r,h1,h2⟩
theorem sI: ∀(k:Nat) (u:List UInt8),Lib.count (dbl u) [39,39]≤k→Lib.replaceK [39,39] [39] k (dbl u)=u
 |0,u,h=>by
  rcases Gp u with h2|⟨a,r,h1,h2⟩
  ·have:=jw u [] h2
   simp only[List.append_nil,dbl]at this
   rw[this];rfl
  ·exfalso
   have hd:dbl u=a++39::39::dbl r:=by rw[h1,jw a _ h2,dbl,if_pos rfl]
   have:=Lib.count_hit (sub:=[39,39]) (by simp) (sa a (dbl r) h2)
   rw[hd]at h
   omega
 |k+1,u,h=>by
  rcases Gp u with h2|⟨a,r,h1,h2⟩
  ·have:=jw u [] h2
   simp only[List.append_nil,dbl]at this
   rw[this,Lib.replaceK,wN u h2];rfl
  ·have hd:dbl u=a++39::39::dbl r:=by rw[h1,jw a _ h2,dbl,if_pos rfl]
   have hi:=sa a (dbl r) h2
   rw[←hd]at hi
   have hc:=Lib.count_hit (sub:=[39,39]) (by simp) hi
   rw[Lib.replaceK_hit _ _ _ _ _ hi]
   have hdr:(dbl u).drop (a.length+([39,39]:List UInt8).length)=dbl r:=by
    rw[hd,←List.drop_drop,List.drop_left' rfl];rfl
   have ht:(dbl u).take a.length=a:=by rw[hd,List.take_left' rfl]
   rw[hdr]at hc
   rw[hdr,ht,sI k r (by omega),h1]
   simp
theorem Gs (u:List UInt8):Lib.replaceAll (dbl u) [39,39] [39]=u:=by
 unfold Lib.replaceAll Lib.replace Lib.replaceNum
 rw[if_neg (by decide),if_pos (Or.inl (by decide))]
 exact sI _ _ (Nat.le_refl _)
theorem sG: ∀(u:List UInt8),bW 39 (dbl u++[39])=some (u,(dbl u).length+1)
 |[]=>fy (fun d t h=>by cases h)
 |c::r=>by
  by_cases hc:c=39
  ·subst hc
   rw[dbl,if_pos rfl,List.cons_append,List.cons_append,gg,sG r]
   simp only[Option.map_some,List.length_cons]
  ·rw[dbl,if_neg hc,List.cons_append,il hc,sG r]
   simp only[Option.map_some,List.length_cons]
theorem ya: ∀(u:List UInt8),∀b∈dbl u,b∈u∨b=39
 |[],b,h=>by simp[dbl]at h
 |c::r,b,h=>by
  unfold dbl at h
  split at h
  ·rcases List.mem_cons.1 h with h|h
   ·exact Or.inr h
   ·rcases List.mem_cons.1 h with h|h
    ·exact Or.inr h
    ·rcases ya r b h with h|h
     ·exact Or.inl (List.mem_cons_of_mem _ h)
     ·exact Or.inr h
  ·rcases List.mem_cons.1 h with h|h
   ·exact Or.inl (by rw[h];simp)
   ·rcases ya r b h with h|h
    ·exact Or.inl (List.mem_cons_of_mem _ h)
    ·exact Or.inr h
theorem kV {s:List UInt8}:df s=true↔ ∀b∈s,32≤b.toNat∧b.toNat≤126:=by
 unfold df
 rw[Bool.not_eq_true',List.any_eq_false]
 constructor
 ·intro h b hb
  have:=h b hb
  simp only[Bool.or_eq_true,decide_eq_true_eq,not_or]at this
  omega
 ·intro h b hb
  have:=h b hb
  simp only[Bool.or_eq_true,decide_eq_true_eq,not_or]
  omega
theorem wC {u:List UInt8}(h:df u=true):df (bh u)=true:=by
 rw[kV]at h ⊢
 intro b hb
 unfold bh at hb
 simp only[List.mem_append,List.mem_singleton]at hb
 rcases hb with(h1|h1)|h1
 ·subst h1;decide
 ·rcases ya u b h1 with h2|h2
  ·exact h b h2
  ·subst h2;decide
 ·subst h1;decide
theorem qa (u:List UInt8):(bh u).length=(dbl u).length+2:=by
 unfold bh
 simp only[List.length_append,List.length_cons,List.length_nil]
 omega
theorem A8 {u:List UInt8}(h:df u=true)(hl:u.length≤60):eZ (bh u)=some ⟨1,6,bh u⟩:=by
 have hd:=mD u
 have hlen:=qa u
 have hT:bp (bh u)=0:=by unfold bp;rw[if_neg (by omega),if_pos (wC h)]
 refine sP (c:=39) (kept:=List.range' 0 ((bh u).length-0)) hT rfl (by decide) ?_
 have hq:cE (bh u) 0= .ok (⟨1,6,bh u⟩,(bh u).length):=by
  unfold cE
  have e1:((bh u)[0]?).getD 0=39:=rfl
  have e2:(bh u).drop (0+1)=dbl u++[39]:=rfl
  rw[e1,e2,sG]
  simp only
  rw[if_neg (by omega),hlen]
  congr 2
  omega
 show dw (bh u) 0=_
 unfold dw
 rw[hq]
theorem C1 {u:List UInt8}(h:df u=true)(hl:u.length≤60):dN 6 (bh u)=0:=by
 unfold dN
 rw[if_neg (by decide),if_pos (by decide),if_pos (A8 h hl)]
section
variable {μ:Mu}{s:List UInt8}
def mid (s:List UInt8):List UInt8:=(s.drop 1).take (s.length-2)
end
end Go.Abs
set_option linter.unusedVariables false
set_option linter.unusedSimpArgs false
namespace Go.Abs
open Go Go.Proofs
def bo (ty p:Int):List UInt8:=if ty=2 then [68]++Lib.itoa p else if p≠0 then [69]++Lib.itoa p else []
def bc (W P:List UInt8)(ty p:Int):List UInt8:=W++(46::(P++bo ty p))
structure RealOK (W P:List UInt8) (ty p:Int):Prop where
 wd: ∀b∈W,av b=true
 wl:gO W
 pd: ∀b∈P,av b=true
 pl:gO P.reverse
 cnt:countR W+countR P≤30
 p1: -999≤p
 p2:p≤999
 ty:ty=1∨ty=2
theorem dV {l:List UInt8}(h:gO l):l≠[]:=by
 rintro rfl
 rcases h with h|⟨c,r,h,_⟩
 ·simp at h
 ·cases h
theorem CG {l:List UInt8}(h:gO l):bM l=l:=by
 match l,h with
 |[],h=>rfl
 |[c],h=>rfl
 |c::d::r,h=>
  rcases h with h|⟨x,y,h,hx⟩
  ·simp at h
  ·injection h with h _
   subst h
   unfold bM
   rw[if_neg hx]
theorem zj (l:List UInt8):bi l≠[]:=by
 unfold bi
 split
 ·simp
 ·assumption
theorem xf {l:List UInt8}(h: ∀b∈l,av b=true): ∀b∈bi l,av b=true:=by
 unfold bi
 split
 ·intro b hb;rw[List.mem_singleton.1 hb];rfl
 ·exact h
theorem yN {W:List UInt8}(h:gO W):before W=W:=by
 unfold before bi
 rw[if_neg (dV h),CG h]
theorem AV {P:List UInt8}(h:gO P.reverse):after P=P:=by
 have h0:P≠[]:=fun e=>dV h (by rw[e];rfl)
 unfold after bi fZ
 rw[if_neg h0,CG h,List.reverse_reverse]
theorem OK {whole part:List UInt8}{kind exp:Int}{e:Nat}{q:Tok×Nat}(h:dS whole part kind exp e= .ok q)(hw: ∀b∈whole,av b=true)(hp: ∀b∈part,av b=true)(hk:kind=1∨kind=2)(h1: -999≤exp)(h2:exp≤999):
  ∃W P,RealOK W P kind exp∧q.1=⟨1,kind,bc W P kind exp⟩:=by
 unfold dS at h
 split at h
 ·cases h
 ·rename_i hc
  refine⟨before whole,after part,⟨fun b hb=>xf hw b (lS _ b hb),my _ (zj _),fun b hb=> ?_,?_,by omega,h1,h2,hk⟩,?_⟩
  ·unfold after fZ at hb
   have:=lS _ b (List.mem_reverse.1 hb)
   exact xf hp b (List.mem_reverse.1 this)
  ·unfold after fZ
   rw[List.reverse_reverse]
   exact my _ (by simpa using zj part)
  ·unfold bc bo
   split at h
   ·rename_i h3
    injection h with h
    rw[←h,if_pos h3]
    simp
   ·rename_i h3
    split at h
    ·rename_i h4
     injection h with h
     rw[←h,if_neg h3,if_pos h4]
     simp
    ·rename_i h4
     injection h with h
     rw[←h,if_neg h3,if_neg h4]
     simp
section
variable {s:List UInt8}{n:Nat}
def Hm (t:Tok):Prop:=t.kind=1→(t.type=1∨t.type=2)→ ∃W P p,RealOK W P t.type p∧t.text=bc W P t.type p
def Hl {β:Type}:Except Int (Tok×β)→Prop
 | .ok q=>Hm q.1
 | .error _=>True
theorem Lq {t:Tok}(h:t.type≠1∧t.type≠2):Hm t:=fun _ e=>e.elim (fun e=>absurd e h.1) (fun e=>absurd e h.2)
theorem wa {k m:Nat}: ∀b∈(s.drop k).take (digR s k),av b=true:=by
 have:=(kC (s:=s) (n:=k)).1
 intro b hb
 rw[←this]at hb
 exact im b hb
theorem Ll (h:(aR false s n).length≤3): -999≤dO s n∧dO s n≤999:=by
 have hd: ∀b∈aR false s n,av b=true:=im
 have hb:=(dL _ 0 hd).2
 have:10^(aR false s n).length≤10^3:=Nat.pow_le_pow_right (by omega) h
 unfold dO
 split<;>omega
theorem zy {whole part:List UInt8}{point:Bool}{e:Nat}(hw: ∀b∈whole,av b=true)(hp: ∀b∈part,av b=true):Hl (gF s whole part point e):=by
 unfold gF
 have key: ∀(kind exp:Int) (e':Nat),(kind=1∨kind=2)→ -999≤exp→exp≤999→Hl (dS whole part kind exp e'):=by
  intro kind exp e' hk h1 h2
  cases h:dS whole part kind exp e' with
  |error x=>trivial
  |ok q=>
   obtain⟨W,P,ho,hq⟩:=OK h hw hp hk h1 h2
   show Hm q.1
   rw[hq]
   exact fun _ _=>⟨W,P,exp,ho,rfl⟩
 split
 ·split
  ·trivial
  ·rename_i h3
   have:=Ll (s:=s) (n:=e) (by omega)
   exact key _ _ _ (by split<;>simp) this.1 this.2
 ·split
  ·exact key 1 0 e (Or.inl rfl) (by omega) (by omega)
  ·unfold lY
   split
   ·trivial
   ·split
    ·trivial
    ·exact Lq (by simp)
theorem D8 {c:UInt8}(h:s[n]? =some c)(hc:av c=true∨(c=46∧av ((s[n+1]?).getD 0)=true)):Hl (b9 false s n):=by
 rw[←qx h hc]
 unfold gG
 split
 ·exact zy (wa (m:=0)) (wa (m:=0))
 ·exact zy (wa (m:=0)) (by simp)
end
theorem nG {l:List UInt8}:l.length≤countR l+1:=by
 unfold countR
 split
 ·rename_i h;rw[h];exact Nat.le_refl _
 ·omega
theorem j0 (p:Int):(∃m:Nat,p=(m:Int)∧Lib.itoa p=Lib.decDigits m)∨ ∃m:Nat,1≤m∧p= -(m:Int)∧Lib.itoa p=45::Lib.decDigits m:=by
 by_cases h:0≤p
 ·obtain⟨m,rfl⟩: ∃m:Nat,p=(m:Int):=⟨p.toNat,by omega⟩
  exact Or.inl ⟨m,rfl,g8⟩
 ·obtain⟨m,rfl⟩: ∃m:Nat,p= -(m:Int):=⟨(-p).toNat,by omega⟩
  exact Or.inr ⟨m,by omega,rfl,vH (by omega)⟩
theorem m0 (m:Nat):Lib.decDigits m≠[]:=dV (vC m)
theorem BD (p:Int): ∀b∈Lib.itoa p,b=45∨av b=true:=by
 intro b hb
 rcases j0 p with⟨m,_,h⟩|⟨m,_,_,h⟩
 ·rw[h]at hb;exact Or.inr (gC m b hb)
 ·rw[h]at hb
  rcases List.mem_cons.1 hb with h|h
  ·exact Or.inl h
  ·exact Or.inr (gC m b h)
theorem MR (ty p:Int): ∀b∈bo ty p,b=68∨b=69∨b=45∨av b=true:=by
 intro b hb
 unfold bo at hb
 split at hb
 ·rcases List.mem_append.1 hb with h|h
  ·exact Or.inl (List.mem_singleton.1 h)
  ·exact Or.inr (Or.inr (BD p b h))
 ·split at hb
  ·rcases List.mem_append.1 hb with h|h
   ·exact Or.inr (Or.inl (List.mem_singleton.1 h))
   ·exact Or.inr (Or.inr (BD p b h))
  ·simp at hb
theorem tw {b:UInt8}(h:av b=true):32≤b.toNat∧b.toNat≤126:=by
 have:=cm.1 h
 omega
theorem zp {W P:List UInt8}{ty p:Int}(h:RealOK W P ty p):bp (bc W P ty p)=0:=by
 have h1:=nG (l:=W)
 have h2:=nG (l:=P)
 have h3:=h.cnt
 have h4:(bo ty p).length≤22:=by
  have:=Lib.itoa_length_le p (by have:=h.p1;omega) (by have:=h.p2;omega)
  unfold bo
  split
  ·simp;omega
  ·split
   ·simp;omega
   ·simp
 unfold bp
 rw[if_neg (by unfold bc;simp only[List.length_append,List.length_cons];omega),if_pos]
 rw[kV]
 intro b hb
 unfold bc at hb
 rcases List.mem_append.1 hb with hb|hb
 ·exact tw (h.wd b hb)
 ·rcases List.mem_cons.1 hb with hb|hb
  ·subst hb;decide
  ·rcases List.mem_append.1 hb with hb|hb
   ·exact tw (h.pd b hb)
   ·rcases MR ty p b hb with hb|hb|hb|hb
    ·subst hb;decide
    ·subst hb;decide
    ·subst hb;decide
    ·exact tw hb
theorem kU {W:List UInt8}{p:UInt8→Bool}: ∀(v r:List UInt8),(∀b∈v,p b=true)→(∀c t,r=c::t→p c=false)→(v++r).takeWhile p=v
 |[],[],_,_=>rfl
 |[],c::t,_,h=>by rw[List.nil_append,List.takeWhile_cons,h c t rfl];rfl
 |a::v,r,h1,h2=>by
  rw[List.cons_append,List.takeWhile_cons,h1 a (by simp),if_pos rfl,kU (W:=W) v r (fun b hb=>h1 b (List.mem_cons_of_mem _ hb)) h2]
section
variable {W P:List UInt8}{ty p:Int}
theorem FC {s q:List UInt8}{L:UInt8}(hL:L=69∨L=68)(hs:s=q++L::Lib.itoa p)(h1: -999≤p)(h2:p≤999):
  (aP false s q.length).2.2.2=true∧(aR false s q.length).length≤3∧(aP false s q.length).1=L∧dO s q.length=p∧(aP false s q.length).2.2.1=s.length:=by
 have hlt:q.length<s.length:=by rw[hs];simp
 have hg0:atC false s q.length=L:=by rw[ci,hs,List.getElem?_append_right (Nat.le_refl _)];simp
 have hE:atE false s q.length=q.length+1:=by rw[cI,if_pos hlt]
 have hxL:ce false s q.length=L:=by unfold ce;rw[hg0];rcases hL with rfl|rfl<;>rfl
 have hdrop1:s.drop (q.length+1)=Lib.itoa p:=by rw[hs,←List.drop_drop,List.drop_left' rfl];rfl
 have hat1:atC false s (q.length+1)=((Lib.itoa p)[0]?).getD 0:=by
  rw[ci,←hdrop1,List.getElem?_drop]
 have hcond:ce false s q.length=69∨ce false s q.length=68:=by rw[hxL];exact hL
 have hx:aP false s q.length=(ce false s q.length,cp false s q.length++aR false s q.length,runE false av s (expStart false s q.length),!decide (aR false s q.length=[])):=by
  unfold aP;rw[if_pos hcond]
 have key: ∀(m:Nat) (st:Nat),m≤999→expStart false s q.length=st→s.drop st=Lib.decDigits m→st+(Lib.decDigits m).length=s.length→
   aR false s q.length=Lib.decDigits m∧(Lib.decDigits m).length≤3∧runE false av s (expStart false s q.length)=s.length:=by
  intro m st hm h3 h4 h5
  have h6:(s.drop st).takeWhile av=Lib.decDigits m:=by rw[h4];exact fX _ (gC m)
  refine⟨?_,fo 3 m (by omega) (by omega),?_⟩
  ·unfold aR;rw[h3,da c8,h6]
  ·rw[h3,db c8,h6,h5]
 have hlen:s.length=q.length+1+(Lib.itoa p).length:=by rw[hs];simp;omega
 rcases j0 p with⟨m,hm,hi⟩|⟨m,hm1,hm,hi⟩
 ·obtain⟨c,r,hcr⟩: ∃c r,Lib.decDigits m=c::r:=by
   cases h:Lib.decDigits m with
   |nil=>exact absurd h (m0 m)
   |cons c r=>exact⟨c,r,rfl⟩
  have hcd:av c=true:=gC m c (by rw[hcr];simp)
  have hc:atC false s (q.length+1)=c:=by rw[hat1,hi,hcr];rfl
  have hn45:c≠45:=by rintro rfl;exact absurd hcd (by decide)
  have hn43:c≠43:=by rintro rfl;exact absurd hcd (by decide)
  have hst:expStart false s q.length=q.length+1:=by unfold expStart;rw[hE,hc,if_neg (by simp[hn43,hn45])]
  obtain⟨k1,k2,k3⟩:=key m (q.length+1) (by omega) hst (by rw[hdrop1,hi]) (by rw[hlen,hi])
  rw[hx]
  refine⟨by simp[k1,m0 m],by rw[k1];exact k2,hxL,?_,k3⟩
  unfold dO
  rw[hc,if_neg hn45,k1,iM,hm]
 ·have hc:atC false s (q.length+1)=45:=by rw[hat1,hi];rfl
  have hlt1:q.length+1<s.length:=by rw[hlen,hi];simp
  have hst:expStart false s q.length=q.length+2:=by
   unfold expStart
   rw[hE,hc,if_pos (Or.inr rfl),cI,if_pos hlt1]
  have hd2:s.drop (q.length+2)=Lib.decDigits m:=by
   rw[show q.length+2=(q.length+1)+1 from rfl,←List.drop_drop,hdrop1,hi];rfl
  obtain⟨k1,k2,k3⟩:=key m (q.length+2) (by omega) hst hd2 (by rw[hlen,hi];simp;omega)
  rw[hx]
  refine⟨by simp[k1,m0 m],by rw[k1];exact k2,hxL,?_,k3⟩
  unfold dO
  rw[hc,if_pos rfl,k1,iM,hm]
theorem xC: ∀c t,bo ty p=c::t→av c=false:=by
 intro c t h
 unfold bo at h
 split at h
 ·injection h with h _;subst h;decide
 ·split at h
  ·injection h with h _;subst h;decide
  ·cases h
theorem El (h:RealOK W P ty p):gG (bc W P ty p) 0= .ok (⟨1,ty,bc W P ty p⟩,(bc W P ty p).length):=by
 have hd0:(bc W P ty p).drop 0=W++46::(P++bo ty p):=rfl
 have e1:digR (bc W P ty p) 0=W.length:=by
  unfold digR
  rw[hd0,iL (by decide) W _ h.wd]
 have e2:(bc W P ty p)[0+W.length]? =some 46:=by unfold bc;rw[Nat.zero_add,List.getElem?_append_right (Nat.le_refl _)];simp
 have hd1:(bc W P ty p).drop (0+W.length+1)=P++bo ty p:=by
  unfold bc
  rw[Nat.zero_add,←List.drop_drop,List.drop_left' rfl];rfl
 have e3:digR (bc W P ty p) (0+W.length+1)=P.length:=by
  unfold digR
  rw[hd1,kU (W:=W) P _ h.pd xC]
 have hP:P≠[]:=fun e=>dV h.pl (by rw[e];rfl)
 have e4:lp (bc W P ty p) 0=false:=by
  unfold lp
  rw[e1,Bool.and_eq_false_iff]
  right
  rw[List.any_eq_false]
  intro w hw hb
  have hb':bv (bc W P ty p) (0+W.length) w=true:=by simpa using hb
  obtain⟨_,_,h3,_⟩:=fh (gI w hw) hb'
  have hlt:0+W.length<(bc W P ty p).length:=by unfold bc;simp
  obtain⟨c,r,hcr⟩: ∃c r,P=c::r:=by
   cases P with
   |nil=>exact absurd rfl hP
   |cons c r=>exact⟨c,r,rfl⟩
  have hcd:av c=true:=h.pd c (by rw[hcr];simp)
  have hcl:aV c=false:=by
   have:=cm.1 hcd
   unfold aV
   rw[Bool.or_eq_false_iff,Bool.and_eq_false_iff,Bool.and_eq_false_iff,decide_eq_false_iff_not,decide_eq_false_iff_not,decide_eq_false_iff_not]
   omega
  have h6:((bc W P ty p).drop (0+W.length+1)).takeWhile aV=[]:=by
   rw[hd1,hcr,List.cons_append,List.takeWhile_cons,hcl];rfl
  rw[cI,if_pos hlt,db jY,h6]at h3
  simp only[List.length_nil,Nat.add_zero]at h3
  have h5:(bc W P ty p)[0+W.length+1]? =some c:=by
   have:((bc W P ty p).drop (0+W.length+1))[0]? =some c:=by rw[hd1,hcr];rfl
   rw[List.getElem?_drop]at this
   exact this
  rw[ci,h5]at h3
  simp only[Option.getD_some]at h3
  subst h3
  exact absurd hcd (by decide)
 unfold gG
 rw[e4,e1,e2,e3,hd1]
 simp only[Bool.not_false,Bool.true_and,decide_true,if_true]
 rw[hd0,List.take_left' rfl,List.take_left' rfl,Nat.zero_add]
 have hq:bc W P ty p=(W++46::P)++bo ty p:=by unfold bc;simp
 have hql:(W++46::P).length=W.length+1+P.length:=by simp;omega
 have hr: ∀(kind exp:Int) (e:Nat),dS W P kind exp e=if kind=2 then .ok (⟨1,kind,W++[46]++P++[68]++Lib.itoa exp⟩,e)else if exp≠0 then .ok (⟨1,kind,W++[46]++P++[69]++Lib.itoa exp⟩,e)else .ok (⟨1,kind,W++[46]++P⟩,e):=by
  intro kind exp e
  unfold dS
  rw[yN h.wl,AV h.pl,if_neg (by have:=h.cnt;omega)]
 unfold gF
 by_cases ht:ty=2
 ·have hs:bc W P ty p=(W++46::P)++68::Lib.itoa p:=by rw[hq];unfold bo;rw[if_pos ht];rfl
  obtain⟨x1,x2,x3,x4,x5⟩:=FC (p:=p) (Or.inr rfl) hs h.p1 h.p2
  rw[hql]at x1 x2 x3 x4 x5
  rw[x1,if_pos rfl,if_neg (by omega),x3,if_pos rfl,x4,x5,hr,if_pos rfl,ht,←ht]
  congr 3
  rw[hs];simp
 ·have ht1:ty=1:=h.ty.elim id (fun e=>absurd e ht)
  by_cases hp:p=0
  ·have hs:bc W P ty p=W++46::P:=by rw[hq];unfold bo;rw[if_neg ht,if_neg (by simp[hp])];simp
   have hA:atC false (bc W P ty p) (W.length+1+P.length)=0:=by
    rw[ci,List.getElem?_eq_none (by rw[hs,hql];omega)];rfl
   have hX:(aP false (bc W P ty p) (W.length+1+P.length)).2.2.2=false:=by
    unfold aP
    have:ce false (bc W P ty p) (W.length+1+P.length)=0:=by unfold ce;rw[hA];rfl
    rw[this]
    rfl
   rw[hX,if_neg (by simp),if_pos rfl,hr,if_neg (by decide),if_neg (by simp),hs,hql,ht1]
   simp
  ·have hs:bc W P ty p=(W++46::P)++69::Lib.itoa p:=by rw[hq];unfold bo;rw[if_neg ht,if_pos hp];rfl
   obtain⟨x1,x2,x3,x4,x5⟩:=FC (p:=p) (Or.inl rfl) hs h.p1 h.p2
   rw[hql]at x1 x2 x3 x4 x5
   rw[x1,if_pos rfl,if_neg (by omega),x3,if_neg (by decide),x4,x5,hr,if_neg (by decide),if_pos hp,ht1,←ht1]
   congr 3
   rw[hs];simp
theorem Em (h:RealOK W P ty p):eZ (bc W P ty p)=some ⟨1,ty,bc W P ty p⟩:=by
 obtain⟨c,r,hcr⟩: ∃c r,W=c::r:=by
  cases hw:W with
  |nil=>exact absurd hw (dV h.wl)
  |cons c r=>exact⟨c,r,rfl⟩
 have hcd:av c=true:=h.wd c (by rw[hcr];simp)
 have hcl:aV c=false:=by
  have:=cm.1 hcd
  unfold aV
  rw[Bool.or_eq_false_iff,Bool.and_eq_false_iff,Bool.and_eq_false_iff,decide_eq_false_iff_not,decide_eq_false_iff_not,decide_eq_false_iff_not]
  omega
 have hg:(bc W P ty p)[0]? =some c:=by unfold bc;rw[hcr];rfl
 refine sP (c:=c) (kept:=[]) (zp h) hg (fun e=>by rw[e]at hcd;exact absurd hcd (by decide)) ?_
 unfold ct
 rw[hcl,hcd,←qx hg (Or.inl hcd),El h]
 rfl
theorem C2 (h:RealOK W P ty p):dN ty (bc W P ty p)=0:=by
 unfold dN
 rw[if_neg (by rcases h.ty with rfl|rfl<;>decide),if_pos (by rcases h.ty with rfl|rfl<;>simp),if_pos (Em h)]
end
end Go.Abs
set_option linter.unusedVariables false
set_option linter.unusedSimpArgs false
namespace Go.Abs
open Go Go.Proofs
def rd (u:List UInt8):Except Int (Tok×Nat):=iy (ct false u 0 ((u[0]?).getD 0))
def shN (m:Nat):Except Int (Tok×Nat)→Except Int (Tok×Nat)
 | .ok q=> .ok (q.1,m+q.2)
 | .error e=> .error e
section
variable {s:List UInt8}{m:Nat}
theorem iI {j:Nat}:atC false s (m+j)=atC false (s.drop m) j:=by rw[ci,ci,List.getElem?_drop]
theorem ll {j:Nat}(hm:m≤s.length):atE false s (m+j)=m+atE false (s.drop m) j:=by
 rw[cI,cI,List.length_drop]
 split<;>split<;>omega
theorem xw {p:UInt8→Bool}{j:Nat}(hp:p 0=false):cw false p s (m+j)=cw false p (s.drop m) j:=by rw[da hp,da hp,List.drop_drop]
theorem nU {p:UInt8→Bool}{j:Nat}(hp:p 0=false):runE false p s (m+j)=m+runE false p (s.drop m) j:=by rw[db hp,db hp,List.drop_drop];omega
theorem sO {j:Nat}(hm:m≤s.length):br false s (m+j)=((br false (s.drop m) j).1,m+(br false (s.drop m) j).2.1,(br false (s.drop m) j).2.2):=by
 have h1:cP false s (m+j)=cP false (s.drop m) j:=by unfold cP;rw[ll hm,xw jY]
 have h2:dotEnd false s (m+j)=m+dotEnd false (s.drop m) j:=by unfold dotEnd;rw[ll hm,nU jY,ll hm]
 have h3:dY false s (m+j)=dY false (s.drop m) j:=by unfold dY;rw[h1,ll hm,nU jY,iI]
 unfold br
 rw[iI,h1,h2,h3]
 split<;>rfl
theorem yB {j:Nat}(hm:m≤s.length):aP false s (m+j)=((aP false (s.drop m) j).1,(aP false (s.drop m) j).2.1,m+(aP false (s.drop m) j).2.2.1,(aP false (s.drop m) j).2.2.2):=by
 have h1:ce false s (m+j)=ce false (s.drop m) j:=by unfold ce;rw[iI]
 have h2:cp false s (m+j)=cp false (s.drop m) j:=by unfold cp;rw[ll hm,iI]
 have h3:expStart false s (m+j)=m+expStart false (s.drop m) j:=by
  unfold expStart
  rw[ll hm,iI,ll hm]
  split<;>rfl
 have h4:aR false s (m+j)=aR false (s.drop m) j:=by unfold aR;rw[h3,xw c8]
 unfold aP
 rw[h1,h2,h3,h4,nU c8]
 split<;>rfl
theorem ME {j:Nat}(hm:m≤s.length):b9 false s (m+j)=shN m (b9 false (s.drop m) j):=by
 have h1:bG false s (m+j)=bG false (s.drop m) j:=by unfold bG;rw[xw c8]
 have h2:cr false s (m+j)=cr false (s.drop m) j:=by unfold cr;rw[h1,nU c8,iI,sO hm]
 have h3:dg false s (m+j)=dg false (s.drop m) j:=by unfold dg;rw[h2,nU c8,ll hm,xw c8]
 have h4:numEnd false s (m+j)=m+numEnd false (s.drop m) j:=by
  unfold numEnd
  rw[h2,nU c8,ll hm,nU c8]
  split<;>rfl
 unfold b9
 simp only[h1,h2,h3,h4,yB hm]
 split
 ·cases cg (bG false (s.drop m) j)<;>rfl
 ·unfold real
  split
  ·rfl
  ·split<;>rfl
theorem MF {j:Nat}:cE s (m+j)=shN m (cE (s.drop m) j):=by
 unfold cE
 rw[List.getElem?_drop,List.drop_drop,Nat.add_assoc]
 cases bW ((s[m+j]?).getD 0) (s.drop (m+(j+1)))with
 |none=>rfl
 |some x=>
  simp only
  split
  ·rfl
  ·simp only[shN]
   congr 2
   omega
theorem Uz {j:Nat}(hm:m≤s.length):dQ false s (m+j)=shN m (dQ false (s.drop m) j):=by
 unfold dQ
 simp only[ll hm,iI]
 split
 ·rfl
 ·split
  ·rfl
  ·split
   ·rfl
   ·split<;>rfl
theorem gY {q:Except Int (Tok×Nat)}:iy (noK q)=q:=by cases q<;>rfl
theorem MU {c:UInt8}(hm:m≤s.length):iy (ct false s m c)=shN m (iy (ct false (s.drop m) 0 c)):=by
 have a1:cw false aY s m=cw false aY (s.drop m) 0:=xw (j:=0) m8
 have a2:runE false aY s m=m+runE false aY (s.drop m) 0:=nU (j:=0) m8
 have a3:atC false s (m+1)=atC false (s.drop m) (0+1):=iI (j:=1)
 have a4:b9 false s m=shN m (b9 false (s.drop m) 0):=ME (j:=0) hm
 have a5:br false s m=((br false (s.drop m) 0).1,m+(br false (s.drop m) 0).2.1,(br false (s.drop m) 0).2.2):=sO (j:=0) hm
 have a6:dQ false s m=shN m (dQ false (s.drop m) 0):=Uz (j:=0) hm
 have a7:iy (dw s m)=shN m (iy (dw (s.drop m) 0)):=by rw[fP,fP];exact MF (j:=0)
 unfold ct
 rw[a1,a2,a3,a4,a5,a6]
 split
 ·split<;>rfl
 ·split
  ·rw[gY,gY]
  ·split
   ·split<;>rfl
   ·split
    ·exact a7
    ·rw[gY,gY]
theorem Td (hm:m≤s.length):iy (ct false s m ((s[m]?).getD 0))=shN m (rd (s.drop m)):=by
 rw[MU hm]
 unfold rd
 rw[List.getElem?_drop,Nat.add_zero]
end
inductive Lex:List UInt8→List Tok→Prop
 |nil {u}:u.drop (aQ u)=[]→Lex u []
 |cons {u v t e l}:u.drop (aQ u)=v→v≠[]→rd v= .ok (t,e)→Lex (v.drop e) l→Lex u (t::l)
section
variable {s:List UInt8}
theorem CC {k n:Nat}{out:List Tok}{kept:List Nat}(h:n+aQ (s.drop n)<s.length):
  (∃x,rd ((s.drop n).drop (aQ (s.drop n)))= .error x∧bS false s (k+1) n out kept=(some (n+aQ (s.drop n),x),out,kept))∨
  ∃t e kp,rd ((s.drop n).drop (aQ (s.drop n)))= .ok (t,e)∧bS false s (k+1) n out kept=bS false s k (n+aQ (s.drop n)+e) (out++[t]) (kept++kp):=by
 have hr:=Td (s:=s) (m:=n+aQ (s.drop n)) (by omega)
 rw[←List.drop_drop]at hr
 rw [show bS false s (k + 1) n out kept = (if s.length ≤ n + aQ (s.drop n) then (none, out, kept)
  else match d5 false s out (n+aQ (s.drop n))with
   | .error e=>(some (n+aQ (s.drop n),e),out,kept)
   | .ok q=>bS false s k q.2.1 (out++[q.1]) (kept++q.2.2))from rfl,if_neg (by omega),mw]
 cases ht:ct false s (n+aQ (s.drop n)) ((s[n+aQ (s.drop n)]?).getD 0)with
 |error x=>
  rw[ht]at hr
  cases hx:rd ((s.drop n).drop (aQ (s.drop n)))with
  |error y=>
   rw[hx]at hr
   injection hr with hr
   subst hr
   exact Or.inl ⟨_,rfl,rfl⟩
  |ok q=>rw[hx]at hr;cases hr
 |ok q=>
  rw[ht]at hr
  cases hx:rd ((s.drop n).drop (aQ (s.drop n)))with
  |error y=>rw[hx]at hr;cases hr
  |ok r=>
   rw[hx]at hr
   injection hr with hr
   refine Or.inr ⟨r.1,r.2,q.2.2,rfl,?_⟩
   have h1:q.1=r.1:=congrArg Prod.fst hr
   have h2:q.2.1=n+aQ (s.drop n)+r.2:=congrArg Prod.snd hr
   simp only[h1,h2]
theorem Mv {v:List UInt8}{t:Tok}{e:Nat}(h0: ∀c r,v=c::r→c≠32)(hv:v≠[])(h:rd v= .ok (t,e)):1≤e∧e≤v.length:=by
 obtain⟨c,r,rfl⟩: ∃c r,v=c::r:=by
  cases v with
  |nil=>exact absurd rfl hv
  |cons c r=>exact⟨c,r,rfl⟩
 have hf:=mv (fx:=false) (s:=c::r) (out:=[]) (n:=0) (c:=c) rfl (h0 c r rfl)
 rw[mw]at hf
 unfold rd at h
 cases hq:ct false (c::r) 0 (((c::r)[0]?).getD 0)with
 |error x=>rw[hq]at h;cases h
 |ok q=>
  rw[hq]at h hf
  injection h with h
  have h2:q.2.1=e:=congrArg Prod.snd h
  obtain⟨f1,f2,_⟩:=hf
  omega
theorem od (u:List UInt8): ∀c r,u.drop (aQ u)=c::r→c≠32:=lc u
theorem LJ: ∀(k n:Nat) (out:List Tok) (kept:List Nat) (l:List Tok),s.length<n+k→n≤s.length→Lex (s.drop n) l→ ∃kp,bS false s k n out kept=(none,out++l,kp):=by
 intro k
 induction k with
 |zero=>intro n out kept l h1 h2;omega
 |succ k ih=>
  intro n out kept l h1 h2 hl
  have hb:=ju (s.drop n)
  rw[List.length_drop]at hb
  cases hl with
  |nil h=>
   refine⟨kept,?_⟩
   have hlen:s.length≤n+aQ (s.drop n):=by
    have:=congrArg List.length h
    rw[List.length_drop,List.length_drop]at this
    simp at this
    omega
   unfold bS
   rw[if_pos hlen,List.append_nil]
  |cons h hv hr hl=>
   rename_i v t e l
   have hlen:n+aQ (s.drop n)<s.length:=by
    have h3:=congrArg List.length h
    rw[List.length_drop,List.length_drop]at h3
    have:v.length≠0:=fun e=>hv (List.eq_nil_of_length_eq_zero e)
    omega
   have hp:=Mv (by rw[←h];exact od _) hv hr
   have hvl:v.length=s.length-(n+aQ (s.drop n)):=by rw[←h,List.length_drop,List.length_drop];omega
   rcases CC (k:=k) (out:=out) (kept:=kept) hlen with⟨x,hx,_⟩|⟨t',e',kp,hx,hy⟩
   ·rw[h,hr]at hx;cases hx
   ·rw[h,hr]at hx
    injection hx with hx
    injection hx with h5 h6
    subst h5 h6
    rw[hy]
    obtain⟨kq,hq⟩:=ih (n+aQ (s.drop n)+e) (out++[t]) (kept++kp) l (by omega) (by omega) (by rw[←List.drop_drop,←List.drop_drop,h];exact hl)
    exact⟨kq,by rw[hq];simp⟩
theorem MJ: ∀(k n:Nat) (out:List Tok) (kept:List Nat) (o:List Tok) (kp:List Nat),s.length<n+k→n≤s.length→bS false s k n out kept=(none,o,kp)→ ∃l,o=out++l∧Lex (s.drop n) l:=by
 intro k
 induction k with
 |zero=>intro n out kept l kp h1 h2;omega
 |succ k ih=>
  intro n out kept o kp h1 h2 h
  have hb:=ju (s.drop n)
  rw[List.length_drop]at hb
  by_cases hlen:s.length≤n+aQ (s.drop n)
  ·unfold bS at h
   rw[if_pos hlen]at h
   injection h with _ h
   injection h with h _
   refine⟨[],by rw[h];simp,.nil ?_⟩
   rw[List.drop_drop]
   exact List.drop_eq_nil_of_le hlen
  ·obtain⟨v,hv⟩: ∃v,v=(s.drop n).drop (aQ (s.drop n)):=⟨_,rfl⟩
   have hvl:v.length=s.length-(n+aQ (s.drop n)):=by rw[hv,List.length_drop,List.length_drop];omega
   have hv0:v≠[]:=fun e=>by rw[e]at hvl;simp at hvl;omega
   rcases CC (k:=k) (out:=out) (kept:=kept) (by omega:n+aQ (s.drop n)<s.length)with⟨x,hx,hy⟩|⟨t',e',kq,hx,hy⟩
   ·rw[hy]at h;cases h
   ·rw[hy]at h
    rw[←hv]at hx
    have hp:=Mv (by rw[hv];exact od _) hv0 hx
    obtain⟨l,h3,h4⟩:=ih _ _ _ _ _ (by omega) (by omega) h
    refine⟨t'::l,by rw[h3];simp,.cons hv.symm hv0 hx ?_⟩
    rw[←List.drop_drop,←List.drop_drop,←hv]at h4
    exact h4
theorem Eo {l:List Tok}(ht:bp s=0)(hl:Lex s l)(hn:l.length≤300):(bb false s).e=0∧bX false s=l:=by
 obtain⟨kp,h⟩:=LJ (s:=s) (s.length+1) 0 [] [] l (by omega) (by omega) hl
 have hs:bb false s=⟨l,kp,l.length,0⟩:=by
  unfold bb
  rw[if_pos ht,h]
  simp only[List.nil_append]
  rw[if_pos (show (ck none).2=0 from rfl),if_neg (by omega)]
 refine⟨by rw[hs],?_⟩
 unfold bX
 rw[hs]
 rfl
theorem t6 (h:(bb false s).e=0):bp s=0∧Lex s (bX false s)∧(bX false s).length≤300:=by
 obtain⟨ht,hl,_⟩:=kQ h
 have hT:bX false s=(bb false s).toks:=by unfold bX;rw[if_pos h]
 refine⟨ht,?_⟩
 rw[hT]
 unfold bb at h ⊢
 rw[if_pos ht]at h ⊢
 simp only at h ⊢
 obtain⟨x,o,kp,hr⟩: ∃x o kp,bS false s (s.length+1) 0 [] []=(x,o,kp):=⟨_,_,_,rfl⟩
 rw[hr]at h ⊢
 simp only at h ⊢
 cases x with
 |none=>
  obtain⟨l,h1,h2⟩:=MJ (s:=s) (s.length+1) 0 [] [] o kp (by omega) (by omega) hr
  simp only[List.nil_append]at h1
  subst h1
  rw[if_pos (show (ck none).2=0 from rfl)]at h ⊢
  by_cases h3:300<o.length
  ·rw[if_pos h3]at h;exact absurd h (by simp)
  ·rw[if_neg h3]
   exact⟨h2,by show o.length≤300;omega⟩
 |some w=>
  have:=sQ (fx:=false) (s:=s) (s.length+1) 0 [] [] w.1 w.2 (by rw[hr])
  have e:(ck (some w)).2=w.2:=rfl
  rw[e,if_neg this]at h
  exact absurd h this
end
end Go.Abs
set_option linter.unusedVariables false
set_option linter.unusedSimpArgs false
namespace Go.Abs
open Go Go.Proofs
def hd (u:List UInt8):UInt8:=(u[0]?).getD 0
theorem eU {c:UInt8}{r:List UInt8}:hd (c::r)=c:=rfl
theorem dj {a b:List UInt8}(h:a≠[]):hd (a++b)=hd a:=by
 cases a with
 |nil=>exact absurd rfl h
 |cons c r=>rfl
theorem RR {p:UInt8→Bool}{u:List UInt8}(h:p (hd u)=false): ∀c t,u=c::t→p c=false:=by
 rintro c t rfl;exact h
theorem pc {p:UInt8→Bool}{v r:List UInt8}(h1: ∀b∈v,p b=true)(h2:p (hd r)=false):(v++r).takeWhile p=v:=kU (W:=[]) v r h1 (RR h2)
theorem kF {a b:List UInt8}:(a++b).drop a.length=b:=List.drop_left' rfl
theorem at0 {u:List UInt8}:atC false u 0=hd u:=rfl
theorem yj (y:List UInt8):aP false y 0=if ce false y 0=69∨ce false y 0=68 then(ce false y 0,cp false y 0++aR false y 0,runE false av y (expStart false y 0),!decide (aR false y 0=[]))else(0,[],0,false):=rfl
section
variable {W P y:List UInt8}
theorem ic (hw: ∀b∈W,av b=true)(hp: ∀b∈P,av b=true)(hP:P≠[])(hy:av (hd y)=false):
  b9 false (W++46::(P++y)) 0=real W P (aP false y 0).2.1 (aP false y 0).1 (aP false y 0).2.2.2 (W.length+1+P.length+(if(aP false y 0).2.2.2 then(aP false y 0).2.2.1 else 0)):=by
 obtain⟨u,hu⟩: ∃u,u=W++46::(P++y):=⟨_,rfl⟩
 have hul:u.length=W.length+1+P.length+y.length:=by rw[hu];simp;omega
 have d1:u.drop W.length=46::(P++y):=by rw[hu];exact kF
 have d2:u.drop (W.length+1)=P++y:=by rw[←List.drop_drop,d1];rfl
 have d3:u.drop (W.length+1+P.length)=y:=by rw[←List.drop_drop,d2];exact kF
 have t0:(u.drop 0).takeWhile av=W:=by rw[List.drop_zero,hu];exact iL (by decide) W _ hw
 have r0:runE false av u 0=W.length:=by rw[db c8,t0,Nat.zero_add]
 have w0:bG false u 0=W:=by unfold bG;rw[da c8,t0]
 have c0:atC false u W.length=46:=by have:=iI (s:=u) (m:=W.length) (j:=0);rw[Nat.add_zero,d1]at this;rw[this];rfl
 have e0:atE false u W.length=W.length+1:=by rw[cI,if_pos (by omega)]
 obtain⟨c,r,hcr⟩: ∃c r,P=c::r:=by
  cases P with
  |nil=>exact absurd rfl hP
  |cons c r=>exact⟨c,r,rfl⟩
 have hcd:av c=true:=hp c (by rw[hcr];simp)
 have hcl:aV c=false:=by
  have:=cm.1 hcd
  unfold aV
  rw[Bool.or_eq_false_iff,Bool.and_eq_false_iff,Bool.and_eq_false_iff,decide_eq_false_iff_not,decide_eq_false_iff_not,decide_eq_false_iff_not]
  omega
 have dt:(br false u W.length).2.2=false:=by
  have h1:dY false u W.length=false:=by
   unfold dY
   rw[e0,db jY,d2,hcr,List.cons_append,List.takeWhile_cons,hcl]
   have:atC false u (W.length+1)=c:=by have:=iI (s:=u) (m:=W.length+1) (j:=0);rw[Nat.add_zero,d2,hcr]at this;rw[this];rfl
   simp only[Bool.false_eq_true,if_false,List.length_nil,Nat.add_zero]
   rw[this,decide_eq_false (by rintro rfl;exact absurd hcd (by decide))]
   rfl
  unfold br
  rw[if_pos c0]
  exact h1
 have nd:cr false u 0=true:=by unfold cr;rw[r0,c0,dt];rfl
 have np:dg false u 0=P:=by unfold dg;rw[if_pos nd,r0,e0,da c8,d2];exact pc hp hy
 have ne:numEnd false u 0=W.length+1+P.length:=by unfold numEnd;rw[if_pos nd,r0,e0,db c8,d2,pc hp hy]
 have hx:aP false u (W.length+1+P.length)=((aP false y 0).1,(aP false y 0).2.1,W.length+1+P.length+(aP false y 0).2.2.1,(aP false y 0).2.2.2):=by
  have:=yB (s:=u) (m:=W.length+1+P.length) (j:=0) (by omega)
  rw[d3]at this
  exact this
 rw[←hu]
 unfold b9
 simp only[nd,w0,np,ne,hx,Bool.not_true,Bool.false_and,Bool.false_eq_true,if_false]
 cases (aP false y 0).2.2.2<;>rfl
theorem sB (hw: ∀b∈W,av b=true)(h0:W≠[])(hy:av (hd y)=false)(hdot:hd y=46→dY false y 0=true):
  b9 false (W++y) 0=if(aP false y 0).2.2.2 then real W [] (aP false y 0).2.1 (aP false y 0).1 true (W.length+(aP false y 0).2.2.1)else(match cg W with| .ok t=> .ok (t,W.length)| .error e=> .error e):=by
 obtain⟨u,hu⟩: ∃u,u=W++y:=⟨_,rfl⟩
 have hul:u.length=W.length+y.length:=by rw[hu];simp
 have d1:u.drop W.length=y:=by rw[hu];exact kF
 have t0:(u.drop 0).takeWhile av=W:=by rw[List.drop_zero,hu];exact pc hw hy
 have r0:runE false av u 0=W.length:=by rw[db c8,t0,Nat.zero_add]
 have w0:bG false u 0=W:=by unfold bG;rw[da c8,t0]
 have c0:atC false u W.length=hd y:=by have:=iI (s:=u) (m:=W.length) (j:=0);rw[Nat.add_zero,d1]at this;rw[this];rfl
 have hdt:br false u W.length=((br false y 0).1,W.length+(br false y 0).2.1,(br false y 0).2.2):=by
  have:=sO (s:=u) (m:=W.length) (j:=0) (by omega)
  rw[d1]at this
  exact this
 have nd:cr false u 0=false:=by
  unfold cr
  rw[r0,c0,w0,hdt]
  by_cases h46:hd y=46
  ·have:(br false y 0).2.2=true:=by unfold br;rw[at0,if_pos h46];exact hdot h46
   rw[this,decide_eq_false h0]
   simp
  ·rw[decide_eq_false h46];rfl
 have ne:numEnd false u 0=W.length:=by unfold numEnd;rw[nd,r0];rfl
 have np:dg false u 0=[]:=by unfold dg;rw[nd];rfl
 have hx:aP false u W.length=((aP false y 0).1,(aP false y 0).2.1,W.length+(aP false y 0).2.2.1,(aP false y 0).2.2.2):=by
  have:=yB (s:=u) (m:=W.length) (j:=0) (by omega)
  rw[d1]at this
  exact this
 rw[←hu]
 unfold b9
 simp only[nd,w0,np,ne,hx,Bool.not_false,Bool.true_and]
 cases (aP false y 0).2.2.2<;>rfl
theorem kP {w p d:List UInt8}{L:UInt8}{ok:Bool}{e:Nat}{q:Tok×Nat}(h:real w p d L ok e= .ok q):q.1.kind=1∧(q.1.type=1∨q.1.type=2)∧q.2=e:=by
 unfold real at h
 split at h
 ·cases h
 ·injection h with h
  subst h
  unfold dh
  split
  ·exact⟨rfl,Or.inr rfl,rfl⟩
  ·split
   ·exact⟨rfl,Or.inl rfl,rfl⟩
   ·exact⟨rfl,Or.inl rfl,rfl⟩
theorem m3 {L:UInt8}{sg D r:List UInt8}(hL:L=69∨L=68)(hsg:sg=[]∨sg=[45])(hD: ∀b∈D,av b=true)(h0:D≠[])(hr:av (hd r)=false):
  aP false (L::(sg++(D++r))) 0=(L,sg++D,1+sg.length+D.length,true):=by
 obtain⟨c,q,hcq⟩: ∃c q,D=c::q:=by
  cases D with
  |nil=>exact absurd rfl h0
  |cons c r=>exact⟨c,r,rfl⟩
 have hcd:av c=true:=hD c (by rw[hcq];simp)
 obtain⟨u,hu⟩: ∃u,u=L::(sg++(D++r)):=⟨_,rfl⟩
 have hul:u.length=1+sg.length+D.length+r.length:=by rw[hu];simp;omega
 have hD1:1≤D.length:=by rw[hcq];simp
 have hxL:ce false u 0=L:=by
  unfold ce
  rw[at0,hu,eU]
  rcases hL with rfl|rfl<;>rfl
 have e0:atE false u 0=1:=by rw[cI,if_pos (by omega)]
 have hboth:expStart false u 0=1+sg.length∧cp false u 0=sg:=by
  unfold expStart cp
  rcases hsg with rfl|rfl
  ·have c1:atC false u 1=c:=by rw[ci,hu,hcq];rfl
   have n43:c≠43:=by rintro rfl;exact absurd hcd (by decide)
   have n45:c≠45:=by rintro rfl;exact absurd hcd (by decide)
   rw[e0,c1,if_neg n45,if_neg (by simp[n43,n45])]
   exact⟨rfl,rfl⟩
  ·have c1:atC false u 1=45:=by rw[ci,hu];rfl
   rw[e0,c1,if_pos rfl,if_pos (Or.inr rfl),cI,if_pos (by rw[hul];simp;omega)]
   exact⟨rfl,rfl⟩
 obtain⟨hst,hsi⟩:=hboth
 have d1:u.drop (1+sg.length)=D++r:=by
  rw[Nat.add_comm,hu,List.drop_succ_cons]
  exact kF
 have hdi:aR false u 0=D:=by unfold aR;rw[hst,da c8,d1];exact pc hD hr
 have hre:runE false av u (1+sg.length)=1+sg.length+D.length:=by rw[db c8,d1,pc hD hr]
 rw[←hu,yj,hxL,if_pos hL,hsi,hdi,hst,hre,decide_eq_false h0]
 rfl
theorem qe {y:List UInt8}(h:hd y≠69∧hd y≠101∧hd y≠68∧hd y≠100):(aP false y 0).2.2.2=false:=by
 rw[yj,if_neg]
 unfold ce
 rw[at0]
 have:=mg (hd y)
 rintro(h1|h1)
 ·rcases this.1.1 h1 with h2|h2
  ·exact h.1 h2
  ·exact h.2.1 h2
 ·rcases this.2.1 h1 with h2|h2
  ·exact h.2.2.1 h2
  ·exact h.2.2.2 h2
theorem NE {a c:UInt8}{r:List UInt8}(h1:av c=false)(h2:c≠43)(h3:c≠45):(aP false (a::c::r) 0).2.2.2=false:=by
 have e0:atE false (a::c::r) 0=1:=rfl
 have c1:atC false (a::c::r) 1=c:=rfl
 have hst:expStart false (a::c::r) 0=1:=by
  unfold expStart
  rw[e0,c1,if_neg (by simp[h2,h3])]
 have hdi:aR false (a::c::r) 0=[]:=by
  unfold aR
  rw[hst,da c8]
  show List.takeWhile av (c::r)=[]
  rw[List.takeWhile_cons,h1]
  rfl
 rw[yj]
 split
 ·rw[hdi];rfl
 ·rfl
end
theorem mE {c:UInt8}(h:av c=true):aV c=false:=by
 have:=cm.1 h
 unfold aV
 rw[Bool.or_eq_false_iff,Bool.and_eq_false_iff,Bool.and_eq_false_iff,decide_eq_false_iff_not,decide_eq_false_iff_not,decide_eq_false_iff_not]
 omega
theorem jE {u:List UInt8}(h:av (hd u)=true∨(hd u=46∧av (hd (u.drop 1))=true)):rd u=b9 false u 0:=by
 have e1:atC false u (0+1)=hd (u.drop 1):=by have:=iI (s:=u) (m:=1) (j:=0);exact this
 unfold rd ct
 rw[show (u[0]?).getD 0=hd u from rfl,e1]
 rcases h with h|⟨h1,h2⟩
 ·rw[mE h,h,if_neg (by simp),Bool.true_or,if_pos rfl,gY]
 ·rw[h1,h2,if_neg (by decide),show (av 46||(decide ((46:UInt8)=46)&&true))=true from rfl,if_pos rfl,gY]
theorem xl {u:List UInt8}(h:aV (hd u)=true):rd u=if 31<(u.takeWhile aY).length then .error 4 else .ok (⟨0,0,(u.takeWhile aY).map upB⟩,(u.takeWhile aY).length):=by
 unfold rd ct
 rw[show (u[0]?).getD 0=hd u from rfl,h,if_pos rfl,MW,da m8,db m8,List.drop_zero,Nat.zero_add]
 split<;>rfl
theorem Ms {u:List UInt8}(h:hd u=46)(h2:av (hd (u.drop 1))=false):rd u=if dY false u 0 then .ok (cD (cP false u 0),dotEnd false u 0)else .error 7:=by
 have e1:atC false u (0+1)=hd (u.drop 1):=by have:=iI (s:=u) (m:=1) (j:=0);exact this
 unfold rd ct
 rw[show (u[0]?).getD 0=hd u from rfl,e1,h,h2,if_neg (by decide),show (av 46||(decide ((46:UInt8)=46)&&false))=false from rfl,if_neg (by simp),if_pos rfl]
 unfold br
 rw[at0,if_pos h]
 simp only
 split<;>rfl
theorem vV {u:List UInt8}(h:hd u=39∨hd u=34):rd u=cE u 0:=by
 unfold rd ct
 rw[show (u[0]?).getD 0=hd u from rfl]
 rcases h with h|h
 ·rw[h,if_neg (by decide),show (av 39||(decide ((39:UInt8)=46)&&av (atC false u (0+1))))=false from rfl,if_neg (by simp),if_neg (by decide),if_pos (by decide),fP]
 ·rw[h,if_neg (by decide),show (av 34||(decide ((34:UInt8)=46)&&av (atC false u (0+1))))=false from rfl,if_neg (by simp),if_neg (by decide),if_pos (by decide),fP]
def tK (c:UInt8):Bool:= !(aV c||av c||decide (c=46)||decide (c=39)||decide (c=34)||decide (c=32)||decide (c=0))
theorem mH {c:UInt8}{r:List UInt8}(h:tK c=true):rd (c::r)=opC c (r[0]?) 0:=by
 unfold tK at h
 simp only[Bool.not_eq_true',Bool.or_eq_false_iff,decide_eq_false_iff_not]at h
 obtain⟨⟨⟨⟨⟨⟨h1,h2⟩,h3⟩,h4⟩,h5⟩,h6⟩,h7⟩:=h
 unfold rd ct
 rw[show ((c::r)[0]?).getD 0=c from rfl,h1,if_neg (by simp),h2,decide_eq_false h3,if_neg (by simp),if_neg h3,if_neg (by simp[h4,h5]),gY,Mg (s:=c::r) (n:=0) (c:=c) rfl h6]
 rfl
end Go.Abs
set_option linter.unusedVariables false
set_option linter.unusedSimpArgs false
set_option maxRecDepth 100000
namespace Go.Abs
open Go Go.Proofs
section
variable {μ:Mu}{s:List UInt8}
section
variable {W P:List UInt8}{ty p:Int}
theorem ON (h:RealOK W P ty p):W.length≤31∧P.length≤31∧(Lib.itoa p).length≤21∧(bc W P ty p).length≤100:=by
 have h1:=nG (l:=W)
 have h2:=nG (l:=P)
 have h3:=h.cnt
 have h4:=Lib.itoa_length_le p (by have:=h.p1;omega) (by have:=h.p2;omega)
 refine⟨by omega,by omega,h4,?_⟩
 unfold bc bo
 split
 ·simp;omega
 ·split
  ·simp;omega
  ·simp;omega
theorem rR (h1: -999≤p)(h2:p≤999):b7 (Lib.itoa p)=p:=by
 rcases j0 p with⟨m,rfl,hi⟩|⟨m,hm,rfl,hi⟩
 ·have hl:=fo 3 m (by omega) (by omega)
  rw[hi]
  unfold b7
  rw[dJ (gC m) (m0 m) (by omega),iM]
 ·have hl:=fo 3 m (by omega) (by omega)
  rw[hi]
  unfold b7
  rw[p5 (gC m) (m0 m) (by omega),iM]
end
end
end Go.Abs
set_option linter.unusedVariables false
set_option linter.unusedSimpArgs false
set_option maxRecDepth 100000
namespace Go.Abs
open Go Go.Proofs
section
variable {μ:Mu}{s:List UInt8}
section
variable {W P:List UInt8}{ty p:Int}{a:List UInt8}{b:Int}
theorem xE (l:List UInt8):bT (l++[48])=bT l:=by
 unfold bT Lib.trimRightB
 rw[List.reverse_append]
 simp[List.dropWhile_cons]
theorem uz {l:List UInt8}{c:UInt8}(h:c≠48):bT (l++[c])=l++[c]:=by
 unfold bT Lib.trimRightB
 rw[List.reverse_append]
 simp[List.dropWhile_cons,h]
end
end
end Go.Abs
set_option linter.unusedVariables false
set_option linter.unusedSimpArgs false
namespace Go.Abs
open Go Go.Proofs
inductive VT:Tok→Prop
 |name {a}:gK a=true→VT ⟨0,0,a⟩
 |int {a}:ec a=true→valD 0 a≤2147483647→VT ⟨1,0,a⟩
 |real {W P ty p}:RealOK W P ty p→VT ⟨1,ty,bc W P ty p⟩
 |logic {a}:a=fe∨a=en→VT ⟨1,5,a⟩
 |chars {u}:df u=true→u.length≤60→VT ⟨1,6,bh u⟩
 |word {a}:a∈bK→VT ⟨2,0,a⟩
 |sign {a}:a∈bj→VT ⟨2,0,a⟩
section
variable {a r:List UInt8}
theorem eN (h:gK a=true):a.length≤31∧aV (hd a)=true∧(∀b∈a,aY b=true)∧a.map upB=a∧a≠[]:=by
 unfold gK qt at h
 simp only[Bool.and_eq_true,decide_eq_true_eq,Bool.not_eq_true']at h
 obtain⟨⟨⟨h1,h2⟩,h3⟩,h4⟩:=h
 cases a with
 |nil=>cases h2
 |cons c t=>exact⟨h1,h2,fun b hb=>List.all_eq_true.1 h3 b hb,(iW _).2 h4,by simp⟩
theorem Gk (h:gK a=true)(hr:aY (hd r)=false):rd (a++r)= .ok (⟨0,0,a⟩,a.length):=by
 obtain⟨h1,h2,h3,h4,h5⟩:=eN h
 rw[xl (by rw[dj h5];exact h2),pc h3 hr,if_neg (by omega),h4]
theorem dW (h:ec a=true):a.length≤10∧(∀b∈a,av b=true)∧gO a∧a≠[]∧av (hd a)=true:=by
 obtain⟨h1,h2,h3⟩:=jz.1 h
 have h0:a≠[]:=dV h3
 refine⟨h1,h2,h3,h0,?_⟩
 cases a with
 |nil=>exact absurd rfl h0
 |cons c t=>exact h2 c (by simp)
theorem Qv (h:ec a=true)(h2:valD 0 a≤2147483647):cg a= .ok ⟨1,0,a⟩:=by
 obtain⟨f1,f2,f3,f4,_⟩:=dW h
 have ha:=dJ f2 f4 f1
 have hv:b7 a=(valD 0 a:Nat):=by unfold b7;rw[ha]
 have hk:ja a=true:=by unfold ja;rw[ha]
 unfold cg
 rw[if_neg (by rw[hk,hv];simp;omega),hv,g8,yc a.length a rfl f2 f3]
theorem Mt (h:ec a=true)(h2:valD 0 a≤2147483647)(hr:av (hd r)=false)(hdot:hd r=46→dY false r 0=true)(hx:(aP false r 0).2.2.2=false):rd (a++r)= .ok (⟨1,0,a⟩,a.length):=by
 obtain⟨f1,f2,f3,f4,f5⟩:=dW h
 rw[jE (Or.inl (by rw[dj f4];exact f5)),sB f2 f4 hr hdot,hx,if_neg (by simp),Qv h h2]
section
variable {W P:List UInt8}{ty p:Int}
theorem o4 (h:RealOK W P ty p):P≠[]:=fun e=>dV h.pl (by rw[e];rfl)
def lU (W W':List UInt8):Prop:=W'=W∨(W=[48]∧W'=[])
theorem M0 (h:RealOK W P ty p){W':List UInt8}(hW:lU W W'): ∀b∈W',av b=true:=by
 rcases hW with rfl|⟨_,rfl⟩
 ·exact h.wd
 ·intro b hb;cases hb
theorem mz (h:RealOK W P ty p){W':List UInt8}(hW:lU W W'):bi (dr W')=W∧(dr W').length=countR W:=by
 have h1:bi (dr W)=W:=by rw[←rS,yN h.wl]
 rcases hW with rfl|⟨h2,rfl⟩
 ·exact⟨h1,by rw[←qb,h1]⟩
 ·rw[h2];exact⟨rfl,rfl⟩
theorem sX (h:RealOK W P ty p):bi (bT P)=P∧(bT P).length=countR P:=by
 have h1:bi (bT P)=P:=by rw[←vB,AV h.pl]
 exact⟨h1,by rw[←oc,h1]⟩
theorem Te (l:List UInt8):bT (l++[48])=bT l:=xE l
theorem Cm {W' y:List UInt8}(h:RealOK W P ty p)(hW:lU W W')(P':List UInt8)(hP':P'=P∨P'=P++[48])(hy:av (hd y)=false):
  rd (W'++46::(P'++y))=real W' P' (aP false y 0).2.1 (aP false y 0).1 (aP false y 0).2.2.2 (W'.length+1+P'.length+(if(aP false y 0).2.2.2 then(aP false y 0).2.2.1 else 0)):=by
 have hP:=o4 h
 have hd': ∀b∈P',av b=true:=by
  rcases hP' with rfl|rfl
  ·exact h.pd
  ·intro b hb
   rcases List.mem_append.1 hb with hb|hb
   ·exact h.pd b hb
   ·rw[List.mem_singleton.1 hb];rfl
 have hne:P'≠[]:=by rcases hP' with rfl|rfl<;>simp[hP]
 rw[jE ?_,ic (M0 h hW) hd' hne hy]
 have hW0:=dV h.wl
 rcases hW with rfl|⟨_,rfl⟩
 ·left
  rw[dj hW0]
  cases W' with
  |nil=>exact absurd rfl hW0
  |cons c t=>exact h.wd c (by simp)
 ·right
  refine⟨rfl,?_⟩
  show av (hd (P'++y))=true
  rw[dj hne]
  cases P' with
  |nil=>exact absurd rfl hne
  |cons c t=>exact hd' c (by simp)
theorem xF (h:RealOK W P ty p){P':List UInt8}(hP':P'=P∨P'=P++[48]):bi (bT P')=P∧(bT P').length=countR P:=by
 rcases hP' with rfl|rfl
 ·exact sX h
 ·rw[Te];exact sX h
theorem qB (h:RealOK W P ty p){W' P':List UInt8}(hW:lU W W')(hP':P'=P∨P'=P++[48]):ed W' P'=W++[46]++P:=by
 unfold ed
 rw[(mz h hW).1,(xF h hP').1]
theorem vW {W' P' y:List UInt8}(h:RealOK W P 1 0)(hW:lU W W')(hP':P'=P∨P'=P++[48])(hy:av (hd y)=false)(hx:(aP false y 0).2.2.2=false):
  rd (W'++46::(P'++y))= .ok (⟨1,1,bc W P 1 0⟩,W'.length+1+P'.length):=by
 have hc:=h.cnt
 rw[Cm h hW P' hP' hy,hx]
 unfold real jH
 rw[(mz h hW).2,(xF h hP').2,decide_eq_false (by omega),Bool.and_false,Bool.or_self,if_neg (by simp)]
 unfold dh ey
 simp only[Bool.false_eq_true,and_false,if_false,if_true,Nat.add_zero]
 rw[qB h hW hP']
 unfold bc bo
 rw[if_neg (by decide),if_neg (by simp)]
 simp
theorem wR (p:Int): ∃sg D,Lib.itoa p=sg++D∧(sg=[]∨sg=[45])∧(∀b∈D,av b=true)∧D≠[]∧(sg=[45]→1≤valD 0 D∧p= -(valD 0 D:Nat))∧(sg=[]→p=(valD 0 D:Nat))∧(p=0→D=[48]):=by
 rcases j0 p with⟨m,h1,h2⟩|⟨m,h0,h1,h2⟩
 ·refine⟨[],Lib.decDigits m,h2,Or.inl rfl,gC m,m0 m,fun e=>absurd e (by simp),fun _=>by rw[iM,h1],fun e=> ?_⟩
  have:m=0:=by omega
  subst this
  exact jx (by omega)
 ·exact⟨[45],Lib.decDigits m,h2,Or.inr rfl,gC m,m0 m,fun _=>by rw[iM];exact⟨h0,h1⟩,fun e=>absurd e (by simp),fun e=>by omega⟩
theorem RG:b7 [48,48]=0:=by
 unfold b7
 rw[dJ (by decide) (by simp) (by decide)]
 rfl
theorem vX {W' z r:List UInt8}(h:RealOK W P ty p)(hp:ty=2∨p≠0)(hW:lU W W')(hz:z=[]∨(z=[48]∧p=0))(hr:av (hd r)=false):
  rd (W'++46::(P++(bo ty p++(z++r))))= .ok (⟨1,ty,bc W P ty p⟩,W'.length+1+P.length+(bo ty p).length+z.length):=by
 obtain⟨sg,D,h1,h2,h3,h4,h5,h6,h7⟩:=wR p
 have hc:=h.cnt
 obtain⟨L,hL,hT⟩: ∃L,((L=68∧ty=2)∨(L=69∧ty=1∧p≠0))∧bo ty p=L::(sg++D):=by
  unfold bo
  rcases h.ty with ht|ht
  ·have hp':p≠0:=hp.resolve_left (by rw[ht];decide)
   exact⟨69,Or.inr ⟨rfl,ht,hp'⟩,by rw[if_neg (by rw[ht];decide),if_pos hp',h1];rfl⟩
  ·exact⟨68,Or.inl ⟨rfl,ht⟩,by rw[if_pos ht,h1];rfl⟩
 have hDz: ∀b∈D++z,av b=true:=by
  intro b hb
  rcases List.mem_append.1 hb with hb|hb
  ·exact h3 b hb
  ·rcases hz with rfl|⟨rfl,_⟩
   ·cases hb
   ·rw[List.mem_singleton.1 hb];rfl
 have hy:bo ty p++(z++r)=L::(sg++((D++z)++r)):=by rw[hT];simp
 have hLs:L=69∨L=68:=by rcases hL with h|h;exact Or.inr h.1;exact Or.inl h.1
 have hE:=m3 hLs h2 hDz (by simp[h4]) hr
 have hyd:av (hd (L::(sg++((D++z)++r))))=false:=by rw[eU];rcases hLs with rfl|rfl<;>rfl
 have hl3:D.length≤3:=by
  rcases j0 p with⟨m,k1,k2⟩|⟨m,k0,k1,k2⟩
  ·have hp1:=h.p1;have hp2:=h.p2
   have hm:=fo 3 m (by omega) (by omega)
   have:(sg++D).length=(Lib.decDigits m).length:=by rw[←h1,k2]
   simp only[List.length_append]at this
   omega
  ·have hp1:=h.p1;have hp2:=h.p2
   have hm:=fo 3 m (by omega) (by omega)
   have e:(sg++D).length=(Lib.decDigits m).length+1:=by rw[←h1,k2];simp
   simp only[List.length_append]at e
   rcases h2 with rfl|rfl
   ·have:=h6 rfl;omega
   ·simp at e;omega
 have hzl:(D++z).length≤3:=by
  rcases hz with rfl|⟨rfl,hz0⟩
  ·simpa using hl3
  ·rw[h7 hz0];decide
 have hpre:(Lib.trimPrefix (sg++(D++z)) [45]).length≤3:=by
  rcases h2 with rfl|rfl
  ·rw[List.nil_append,(gH hDz).1];exact hzl
  ·rw[(gH hDz).2];exact hzl
 have hval:b7 (sg++(D++z))=p:=by
  rcases hz with rfl|⟨rfl,hz0⟩
  ·rw[List.append_nil,←h1];exact rR h.p1 h.p2
  ·have:sg=[]:=by
    rcases h2 with h|h
    ·exact h
    ·have:=h5 h;omega
   rw[this,h7 hz0,hz0];exact RG
 rw[hy,Cm h hW P (Or.inl rfl) hyd,hE]
 simp only[if_true]
 unfold real jH
 rw[(mz h hW).2,(sX h).2,decide_eq_false (by omega),decide_eq_false (by omega),Bool.false_and,Bool.or_self,if_neg (by simp)]
 unfold dh ey
 simp only[if_true]
 rw[hval,qB h hW (Or.inl rfl)]
 have hlen:W'.length+1+P.length+(1+sg.length+(D++z).length)=W'.length+1+P.length+(bo ty p).length+z.length:=by
  rw[hT];simp;omega
 rw[hlen]
 rcases hL with⟨rfl,ht⟩|⟨rfl,ht,hp0⟩
 ·subst ht
  rw[if_pos ⟨rfl,trivial⟩]
  unfold bc bo
  rw[if_pos rfl]
  simp
 ·subst ht
  rw[if_neg (by simp),if_neg (fun e=>hp0 (yY.1 e))]
  unfold bc bo
  rw[if_neg (by decide),if_pos hp0]
  simp
end
theorem Cl {u:List UInt8}(hu:u.length≤60)(hr:hd r≠39):rd (bh u++r)= .ok (⟨1,6,bh u⟩,(bh u).length):=by
 have h1:hd (bh u++r)=39:=rfl
 rw[vV (Or.inl h1)]
 have hq: ∀w:List UInt8,bW 39 (dbl w++([39]++r))=some (w,(dbl w).length+1):=by
  intro w
  induction w with
  |nil=>exact fy (fun d t h=>by rintro rfl;exact hr (by have h':r=39::t:=h;rw[h'];rfl))
  |cons c t ih=>
   by_cases hc:c=39
   ·subst hc
    rw[dbl,if_pos rfl,List.cons_append,List.cons_append,gg,ih]
    simp only[Option.map_some,List.length_cons]
   ·rw[dbl,if_neg hc,List.cons_append,il hc,ih]
    simp only[Option.map_some,List.length_cons]
 unfold cE
 have e1:((bh u++r)[0]?).getD 0=39:=rfl
 have e2:(bh u++r).drop (0+1)=dbl u++([39]++r):=by show dbl u++[39]++r=_;simp
 rw[e1,e2,hq]
 simp only
 rw[if_neg (by omega),qa]
 congr 2
 omega
theorem GW {w:List UInt8}(hw:w.map upB=w):bv (w++r) 0 w=true:=by
 unfold bv
 rw[List.drop_zero,List.take_left' rfl,hw]
 simp
theorem RC: ∀w∈cj,w.map upB=w:=by decide
theorem uA: ∀w∈cj,av (hd (w.drop 1))=false∧hd w=46∧w≠[]∧w.drop 1≠[]:=by decide
theorem tH {w:List UInt8}(hw:w∈cj):rd (w++r)= .ok (cD w,w.length)∧dY false (w++r) 0=true:=by
 obtain⟨h1,h2,h3,h4⟩:=uA w hw
 obtain⟨k1,k2,k3,k4⟩:=fh (gI w hw) (GW (r:=r) (RC w hw))
 have hok:dY false (w++r) 0=true:=by
  unfold dY
  rw[k3,k2]
  rw[gJ]at hw
  simp only[List.mem_append,List.mem_cons,List.not_mem_nil,or_false]at hw
  rcases hw with hw|hw|hw
  ·have:bK.contains w=true:=by simpa using hw
   rw[this];rfl
  ·rw[decide_eq_true hw];simp
  ·rw[decide_eq_true hw];simp
 refine⟨?_,hok⟩
 have e2:av (hd ((w++r).drop 1))=false:=by
  have:(w++r).drop 1=w.drop 1++r:=by
   cases w with
   |nil=>exact absurd rfl h3
   |cons c t=>rfl
  rw[this,dj h4];exact h1
 rw[Ms (by rw[dj h3];exact h2) e2,hok,if_pos rfl,k2,k4,Nat.zero_add]
theorem xx: ∀w∈bj,(∃c,w=[c]∧tK c=true)∨(∃c d,w=[c,d]∧tK c=true∧opC c (some d) 0= .ok (⟨2,0,w⟩,2)):=by
 intro w hw
 simp only[bj,List.mem_cons,List.not_mem_nil,or_false]at hw
 rcases hw with rfl|rfl|rfl|rfl|rfl|rfl|rfl|rfl|rfl|rfl|rfl|rfl|rfl
 ·exact Or.inr ⟨_,_,rfl,rfl,rfl⟩
 ·exact Or.inr ⟨_,_,rfl,rfl,rfl⟩
 ·exact Or.inr ⟨_,_,rfl,rfl,rfl⟩
 all_goals exact Or.inl ⟨_,rfl,rfl⟩
end
end Go.Abs
set_option linter.unusedVariables false
set_option linter.unusedSimpArgs false
namespace Go.Abs
open Go Go.Proofs
def src (t:Tok)(x:List UInt8):Prop:=x=t.text∨(t.text=48::x∧hd x=46)
theorem fB {t:Tok}{x:List UInt8}(h:av (hd t.text)=false)(hx:src t x):x=t.text:=by
 rcases hx with h1|⟨h1,_⟩
 ·exact h1
 ·rw[h1]at h;exact absurd h (by rw[eU];decide)
theorem Gq {a x:List UInt8}(h:ec a=true)(hx:src ⟨1,0,a⟩ x):x=a:=by
 rcases hx with h1|⟨h1,h2⟩
 ·exact h1
 ·obtain⟨_,f2,_⟩:=dW h
  simp only at h1
  cases x with
  |nil=>cases h2
  |cons c t=>
   have h3:c=46:=h2
   have:=f2 c (by rw[h1];simp)
   rw[h3]at this
   exact absurd this (by decide)
section
variable {W P:List UInt8}{ty p:Int}
theorem qF {x:List UInt8}(h:RealOK W P ty p)(hx:src ⟨1,ty,bc W P ty p⟩ x): ∃W',lU W W'∧x=W'++46::(P++bo ty p):=by
 rcases hx with h1|⟨h1,h2⟩
 ·exact⟨W,Or.inl rfl,h1⟩
 ·simp only at h1
  refine⟨[],Or.inr ⟨?_,rfl⟩,?_⟩
  all_goals
   unfold bc at h1
   have hW:=dV h.wl
   cases hw:W with
   |nil=>exact absurd hw hW
   |cons c w=>
    rw[hw,List.cons_append]at h1
    injection h1 with h3 h4
    cases w with
    |nil=>first|(rw[h3];done)|(rw[List.nil_append]at h4;rw[←h4];rfl)
    |cons d w=>
     rw[←h4]at h2
     have h5:d=46:=h2
     have:=h.wd d (by rw[hw];simp)
     rw[h5]at this
     exact absurd this (by decide)
end
theorem ln {t:Tok}(h:VT t):t.text≠[]∧hd t.text≠32:=by
 cases h with
 |name h=>
  obtain⟨_,h2,_,_,h5⟩:=eN h
  refine⟨h5,fun e=> ?_⟩
  simp only at e
  rw[e]at h2;exact absurd h2 (by decide)
 |int h _=>
  obtain⟨_,_,_,h4,h5⟩:=dW h
  refine⟨h4,fun e=> ?_⟩
  simp only at e
  rw[e]at h5;exact absurd h5 (by decide)
 |real h=>
  rename_i W P ty p
  have hW:=dV h.wl
  refine⟨by show bc W P ty p≠[];unfold bc;simp,fun e=> ?_⟩
  have e':hd (W++46::(P++bo ty p))=32:=e
  rw[dj hW]at e'
  cases W with
  |nil=>exact hW rfl
  |cons c w=>
   have:=h.wd c (by simp)
   rw[show c=32 from e']at this
   exact absurd this (by decide)
 |logic h=>rcases h with rfl|rfl<;>decide
 |chars h1 h2=>exact⟨by simp[bh],by show (39:UInt8)≠32;decide⟩
 |word h=>
  rename_i a
  exact(by decide: ∀w∈bK,w≠[]∧hd w≠32) a h
 |sign h=>
  rename_i a
  exact(by decide: ∀w∈bj,w≠[]∧hd w≠32) a h
theorem ML {t:Tok}{x:List UInt8}(h:VT t)(hx:src t x):x≠[]∧hd x≠32:=by
 rcases hx with rfl|⟨_,h2⟩
 ·exact ln h
 ·refine⟨?_,by rw[h2];decide⟩
  rintro rfl
  exact absurd h2 (by decide)
theorem CP {t:Tok}(h:VT t)(hd0:av (hd t.text)=true):(ec t.text=true∧ ∀b∈t.text,av b=true)∨ ∃W P ty p,RealOK W P ty p∧t.text=W++46::(P++bo ty p):=by
 cases h with
 |name h=>exact absurd (eN h).2.1 (by rw[mE hd0];simp)
 |int h _=>exact Or.inl ⟨h,(dW h).2.1⟩
 |real h=>exact Or.inr ⟨_,_,_,_,h,rfl⟩
 |logic h=>rcases h with rfl|rfl<;>exact absurd hd0 (by decide)
 |chars h1 h2=>exact absurd hd0 (show ¬av 39=true by decide)
 |word h=>exact absurd hd0 (by rename_i a;have:=(by decide: ∀w∈bK,av (hd w)=false) a h;simp[this])
 |sign h=>exact absurd hd0 (by rename_i a;have:=(by decide: ∀w∈bj,av (hd w)=false) a h;simp[this])
theorem Th {t:Tok}(h:VT t)(hd0:aV (hd t.text)=true):t.kind=0∧gK t.text=true:=by
 cases h with
 |name h=>exact⟨rfl,h⟩
 |int h _=>exact absurd hd0 (by rw[mE (dW h).2.2.2.2];simp)
 |real h=>
  rename_i W P ty p
  have hW:=dV h.wl
  have e:aV (hd (W++46::(P++bo ty p)))=true:=hd0
  rw[dj hW]at e
  cases W with
  |nil=>exact absurd rfl hW
  |cons c w=>exact absurd e (by rw[eU,mE (h.wd c (by simp))];simp)
 |logic h=>rcases h with rfl|rfl<;>exact absurd hd0 (by decide)
 |chars h1 h2=>exact absurd hd0 (show ¬aV 39=true by decide)
 |word h=>exact absurd hd0 (by rename_i a;have:=(by decide: ∀w∈bK,aV (hd w)=false) a h;simp[this])
 |sign h=>exact absurd hd0 (by rename_i a;have:=(by decide: ∀w∈bj,aV (hd w)=false) a h;simp[this])
theorem Tg {t:Tok}(h:VT t)(hd0:hd t.text=46):t.text∈cj:=by
 cases h with
 |name h=>exact absurd (eN h).2.1 (by simp only at hd0;rw[hd0];decide)
 |int h _=>exact absurd (dW h).2.2.2.2 (by simp only at hd0;rw[hd0];decide)
 |real h=>
  rename_i W P ty p
  have hW:=dV h.wl
  have e:hd (W++46::(P++bo ty p))=46:=hd0
  rw[dj hW]at e
  cases W with
  |nil=>exact absurd rfl hW
  |cons c w=>exact absurd (h.wd c (by simp)) (by rw[show c=46 from e];decide)
 |logic h=>exact lL (by simpa using h)
 |chars h1 h2=>exact absurd hd0 (by show (39:UInt8)≠46;decide)
 |word h=>exact jC h
 |sign h=>rename_i a;exact absurd hd0 ((by decide: ∀w∈bj,hd w≠46) a h)
theorem O6 {t:Tok}(h:VT t)(hd0:hd t.text=39): ∃u,t.text=bh u:=by
 cases h with
 |name h=>exact absurd (eN h).2.1 (by simp only at hd0;rw[hd0];decide)
 |int h _=>exact absurd (dW h).2.2.2.2 (by simp only at hd0;rw[hd0];decide)
 |real h=>
  rename_i W P ty p
  have hW:=dV h.wl
  have e:hd (W++46::(P++bo ty p))=39:=hd0
  rw[dj hW]at e
  cases W with
  |nil=>exact absurd rfl hW
  |cons c w=>exact absurd (h.wd c (by simp)) (by rw[show c=39 from e];decide)
 |logic h=>rcases h with rfl|rfl<;>exact absurd hd0 (by decide)
 |chars h1 h2=>exact⟨_,rfl⟩
 |word h=>rename_i a;exact absurd hd0 ((by decide: ∀w∈bK,hd w≠39) a h)
 |sign h=>rename_i a;exact absurd hd0 ((by decide: ∀w∈bj,hd w≠39) a h)
theorem OJ {v:List UInt8}{t:Tok}{e:Nat}(h:rd v= .ok (t,e))(hk:t.kind=0):t.text.length≤v.length:=by
 by_cases hl:aV (hd v)=true
 ·rw[xl hl]at h
  split at h
  ·cases h
  ·injection h with h
   injection h with h _
   subst h
   show ((v.takeWhile aY).map upB).length≤v.length
   rw[List.length_map]
   exact(List.takeWhile_prefix aY).length_le
 ·exfalso
  unfold rd ct at h
  rw[show (v[0]?).getD 0=hd v from rfl,if_neg hl]at h
  have num: ∀q:Except Int (Tok×Nat),(∀x,q= .ok x→x.1.kind≠0)→iy (noK q)≠ .ok (t,e):=by
   intro q hq e1
   rw[gY]at e1
   exact hq _ e1 hk
  split at h
  ·refine num _ (fun x hx=> ?_) h
   unfold b9 at hx
   simp only at hx
   split at hx
   ·split at hx
    ·rename_i t' ht
     injection hx with hx
     subst hx
     unfold cg at ht
     split at ht
     ·cases ht
     ·injection ht with ht;subst ht;show (1:Int)≠0;decide
    ·cases hx
   ·rw[(kP hx).1];decide
  ·split at h
   ·split at h
    ·injection h with h
     injection h with h _
     rw[←h]at hk
     unfold cD at hk
     split at hk
     ·exact absurd hk (show (1:Int)≠0 by decide)
     ·exact absurd hk (show (2:Int)≠0 by decide)
    ·cases h
   ·split at h
    ·rw[fP]at h
     unfold cE at h
     split at h
     ·cases h
     ·split at h
      ·cases h
      ·injection h with h
       injection h with h _
       rw[←h]at hk
       exact absurd hk (show (1:Int)≠0 by decide)
    ·refine num _ (fun x hx=> ?_) h
     unfold dQ at hx
     simp only at hx
     split at hx
     ·injection hx with hx;subst hx;show (2:Int)≠0;decide
     ·split at hx
      ·injection hx with hx;subst hx;show (2:Int)≠0;decide
      ·split at hx
       ·injection hx with hx;subst hx;show (2:Int)≠0;decide
       ·split at hx
        ·injection hx with hx;subst hx;show (2:Int)≠0;decide
        ·cases hx
theorem Qz {u:List UInt8}{t t2:Tok}(h0:hd u≠32)(hl:Lex u [t,t2]): ∃e,rd u= .ok (t,e)∧e<u.length∧(t2.kind=0→t2.text.length+e≤u.length):=by
 cases hl with
 |cons h1 h2 h3 h4=>
  rename_i v e
  have hb:aQ u=0:=by
   cases u with
   |nil=>rfl
   |cons c r=>unfold aQ;rw[if_neg (show c≠32 from h0)]
  rw[hb,List.drop_zero]at h1
  subst h1
  refine⟨e,h3,?_⟩
  cases h4 with
  |cons k1 k2 k3 k4=>
   rename_i w e2
   have hw:w.length≤u.length-e:=by rw[←k1,List.length_drop,List.length_drop];omega
   have hw0:w.length≠0:=fun e=>k2 (List.eq_nil_of_length_eq_zero e)
   refine⟨by omega,fun hk=> ?_⟩
   have:=OJ k3 hk
   omega
def iK (t t2:Tok):Prop:=t.kind=1∧(t.type=0∨(t.type=1∧(69:UInt8) ∉ t.text))∧(t2.text=[69]∨t2.text=[68])
theorem Mb {t2:Tok}(h2:VT t2)(hdd:av (hd t2.text)=false)(hs: ¬(t2.text=[69]∨t2.text=[68])):
  (∀r,(aP false (t2.text++r) 0).2.2.2=false)∨ ∃c D r,t2.kind=0∧t2.text=c::(D++r)∧(c=69∨c=68)∧D≠[]∧(∀b∈D,av b=true)∧av (hd r)=false:=by
 by_cases hl:aV (hd t2.text)=true
 ·obtain⟨hk,hc⟩:=Th h2 hl
  obtain⟨_,_,f3,f4,f5⟩:=eN hc
  obtain⟨c,q,hcq⟩: ∃c q,t2.text=c::q:=by
   cases h:t2.text with
   |nil=>exact absurd h f5
   |cons c q=>exact⟨c,q,rfl⟩
  rw[hcq]at f3 f4 hs ⊢
  have hup:j8 c=false:=by
   have:=(iW (c::q)).1 f4
   rw[List.any_cons,Bool.or_eq_false_iff]at this
   exact this.1
  by_cases hED:c=69∨c=68
  ·cases q with
   |nil=>exact absurd (by rcases hED with rfl|rfl<;>simp) hs
   |cons d q=>
    have hdp:=f3 d (by simp)
    by_cases hdg:av d=true
    ·refine Or.inr ⟨c,(d::q).takeWhile av,(d::q).dropWhile av,hk,by rw[List.takeWhile_append_dropWhile],hED,?_,eE _,?_⟩
     ·rw[List.takeWhile_cons,hdg];simp
     ·cases hq:(d::q).dropWhile av with
      |nil=>rfl
      |cons x y=>
       have:=List.head_dropWhile_not av (l:=d::q) (by rw[hq];simp)
       simp only[hq,List.head_cons]at this
       exact this
    ·left
     intro r
     have n43:d≠43:=by rintro rfl;exact absurd hdp (by decide)
     have n45:d≠45:=by rintro rfl;exact absurd hdp (by decide)
     exact NE (by simpa using hdg) n43 n45
  ·left
   intro r
   refine qe ⟨?_,?_,?_,?_⟩<;>rw[List.cons_append,eU]
   ·exact fun e=>hED (Or.inl e)
   ·rintro rfl;exact absurd hup (by decide)
   ·exact fun e=>hED (Or.inr e)
   ·rintro rfl;exact absurd hup (by decide)
 ·left
  intro r
  refine qe ?_
  rw[dj (ln h2).1]
  refine⟨?_,?_,?_,?_⟩<;>(intro e;rw[e]at hl;exact hl (by decide))
end Go.Abs
set_option linter.unusedVariables false
set_option linter.unusedSimpArgs false
namespace Go.Abs
open Go Go.Proofs
def nt (t t2:Tok):Prop:= ∃k,k≤1∧(k=1→ ∃q,t2.text=48::46::q)∧ ∀x r,src t x→rd (x++(t2.text++r))= .ok (t,x.length+k)
theorem MH {t w:List UInt8}(h:el t=some w):4≤w.length:=by
 unfold el at h
 repeat' split at h
 all_goals first|(injection h with h;subst h;decide)|cases h
theorem SZ {c:UInt8}{d:Option UInt8}{e:Nat}(h:opC c d 0= .ok (⟨2,0,[c]⟩,e)):e=1:=by
 unfold opC at h
 split at h
 ·rename_i w hw
  injection h with h
  injection h with h _
  injection h with _ _ h
  have:=MH hw
  rw[h]at this
  simp at this
 ·split at h
  ·injection h with h
   injection h with h _
   injection h with _ _ h
   simp at h
  ·split at h
   ·injection h with h
    injection h with _ h
    omega
   ·split at h
    ·injection h with h
     injection h with _ h
     omega
    ·cases h
theorem Lo {a:List UInt8}{t2:Tok}(h:a∈bj)(h2:VT t2){e:Nat}(he:rd (a++t2.text)= .ok (⟨2,0,a⟩,e)):nt ⟨2,0,a⟩ t2:=by
 have hx: ∀x,src ⟨2,0,a⟩ x→x=a:=fun x=>fB ((by decide: ∀w∈bj,av (hd w)=false) a h)
 refine⟨0,by omega,by omega,fun x r hxs=> ?_⟩
 rw[hx x hxs]
 rcases xx a h with⟨c,rfl,hc⟩|⟨c,d,rfl,hc,ho⟩
 ·have h0:=(ln h2).1
  have hg:(t2.text++r)[0]? =t2.text[0]? :=by
   cases hq:t2.text with
   |nil=>exact absurd hq h0
   |cons y z=>rfl
  rw[List.singleton_append,mH hc]at he
  rw[List.singleton_append,mH hc,hg,he,SZ he]
  rfl
 ·rw[List.cons_append,mH hc]
  exact ho
theorem yV {a:List UInt8}{t t2:Tok}(h:a∈cj)(ht:t=cD a)(hx:t.text=a):nt t t2:=by
 refine⟨0,by omega,by omega,fun x r hxs=> ?_⟩
 have:x=a:=by
  rw[←hx]
  refine fB ?_ hxs
  rw[hx,(uA a h).2.1];rfl
 rw[this,(tH h).1,ht]
 rfl
theorem qA: ∀(u l t:List UInt8) (k:Nat),bW 39 (dbl u++39::39::l)=some (t,k)→u.length<t.length
 |[],l,t,k,h=>by
  rw[dbl,List.nil_append,gg]at h
  cases hq:bW 39 l with
  |none=>rw[hq]at h;cases h
  |some x=>
   rw[hq]at h
   simp only[Option.map_some,Option.some.injEq,Prod.mk.injEq]at h
   rw[←h.1]
   simp
 |c::r,l,t,k,h=>by
  by_cases hc:c=39
  ·subst hc
   rw[dbl,if_pos rfl,List.cons_append,List.cons_append,gg]at h
   cases hq:bW 39 (dbl r++39::39::l)with
   |none=>rw[hq]at h;cases h
   |some x=>
    rw[hq]at h
    simp only[Option.map_some,Option.some.injEq,Prod.mk.injEq]at h
    have:=qA r l x.1 x.2 hq
    rw[←h.1]
    simp
    omega
  ·rw[dbl,if_neg hc,List.cons_append,il hc]at h
   cases hq:bW 39 (dbl r++39::39::l)with
   |none=>rw[hq]at h;cases h
   |some x=>
    rw[hq]at h
    simp only[Option.map_some,Option.some.injEq,Prod.mk.injEq]at h
    have:=qA r l x.1 x.2 hq
    rw[←h.1]
    simp
    omega
theorem G8 {u v:List UInt8}(h:bh u=bh v):u=v:=by
 have h1:dbl u=dbl v:=by
  unfold bh at h
  simp only[List.cons_append,List.nil_append,List.cons.injEq,true_and]at h
  exact List.append_cancel_right h
 rw[←Gs u,h1,Gs]
theorem Hh {u:List UInt8}{t2:Tok}(hu:u.length≤60)(h2:VT t2){e:Nat}(he:rd (bh u++t2.text)= .ok (⟨1,6,bh u⟩,e)):nt ⟨1,6,bh u⟩ t2:=by
 have h39:hd t2.text≠39:=by
  intro h39
  obtain⟨u2,hu2⟩:=O6 h2 h39
  rw[hu2,vV (Or.inl rfl)]at he
  unfold cE at he
  have e1:((bh u++bh u2)[0]?).getD 0=39:=rfl
  have e2:(bh u++bh u2).drop (0+1)=dbl u++39::39::(dbl u2++[39]):=by show dbl u++[39]++([39]++dbl u2++[39])=_;simp
  rw[e1,e2]at he
  cases hq:bW 39 (dbl u++39::39::(dbl u2++[39]))with
  |none=>rw[hq]at he;cases he
  |some x=>
   rw[hq]at he
   simp only at he
   split at he
   ·cases he
   ·injection he with he
    injection he with he _
    injection he with _ _ he
    have:=qA _ _ _ _ hq
    rw[G8 he]at this
    omega
 refine⟨0,by omega,by omega,fun x r hx=> ?_⟩
 have:x=bh u:=fB (t:=⟨1,6,bh u⟩) rfl hx
 rw[this,Cl hu (by rw[dj (ln h2).1];exact h39)]
 rfl
theorem Ln {a:List UInt8}{t2:Tok}(h:gK a=true)(h2:VT t2){e:Nat}(he:rd (a++t2.text)= .ok (⟨0,0,a⟩,e)):nt ⟨0,0,a⟩ t2:=by
 obtain⟨h1,hl,h3,h4,h5⟩:=eN h
 have hp:aY (hd t2.text)=false:=by
  cases hq:aY (hd t2.text)with
  |false=>rfl
  |true=>
   exfalso
   rw[xl (by rw[dj h5];exact hl)]at he
   split at he
   ·cases he
   ·injection he with he
    injection he with he _
    injection he with _ _ he
    have hlen:=congrArg List.length he
    rw[List.length_map]at hlen
    obtain⟨c,y,hcy⟩: ∃c y,t2.text=c::y:=by
     cases hy:t2.text with
     |nil=>rw[hy]at hq;exact absurd hq (by decide)
     |cons c y=>exact⟨c,y,rfl⟩
    rw[hcy,eU]at hq
    have hpre:a++[c] <+:(a++t2.text).takeWhile aY:=by
     rw[hcy]
     have:(a++c::y).takeWhile aY=a++(c::y).takeWhile aY:=List.takeWhile_append_of_pos h3
     rw[this,List.takeWhile_cons,hq]
     simp
    have:=hpre.length_le
    simp at this
    omega
 refine⟨0,by omega,by omega,fun x r hx=> ?_⟩
 have hx':x=a:=by
  refine fB (t:=⟨0,0,a⟩) ?_ hx
  show av (hd a)=false
  cases hq:av (hd a)with
  |false=>rfl
  |true=>rw[mE hq]at hl;cases hl
 rw[hx',Gk h (by rw[dj (ln h2).1];exact hp)]
 rfl
theorem NG {a:List UInt8}{t2:Tok}(h:ec a=true)(hv:valD 0 a≤2147483647)(h2:VT t2)(hs: ¬(t2.text=[69]∨t2.text=[68])){e:Nat}(he:rd (a++t2.text)= .ok (⟨1,0,a⟩,e))(hlt:e<(a++t2.text).length):nt ⟨1,0,a⟩ t2:=by
 obtain⟨f1,f2,f3,f4,f5⟩:=dW h
 have h0:=(ln h2).1
 rw[jE (Or.inl (by rw[dj f4];exact f5))]at he
 have hd0:av (hd t2.text)=false:=by
  cases hq:av (hd t2.text)with
  |false=>rfl
  |true=>
   exfalso
   rcases CP h2 hq with⟨k1,k2⟩|⟨W,P,ty,p,k1,k2⟩
   ·have hall: ∀b∈a++t2.text,av b=true:=by
     intro b hb
     rcases List.mem_append.1 hb with hb|hb
     ·exact f2 b hb
     ·exact k2 b hb
    have:=sB (W:=a++t2.text) (y:=[]) hall (by simp[f4]) rfl (fun e=>absurd e (by decide))
    rw[List.append_nil,show (aP false [] 0).2.2.2=false from rfl,if_neg (by simp)]at this
    rw[this]at he
    split at he
    ·injection he with he
     injection he with _ he
     omega
    ·cases he
   ·have hall: ∀b∈a++W,av b=true:=by
     intro b hb
     rcases List.mem_append.1 hb with hb|hb
     ·exact f2 b hb
     ·exact k1.wd b hb
    have := ic (W := a ++ W) (P := P) (y := bo ty p) hall k1.pd (o4 k1) (by
     cases hq:bo ty p with
     |nil=>rfl
     |cons c q=>exact xC (ty:=ty) (p:=p) c q hq)
    rw[List.append_assoc,←k2]at this
    rw[this]at he
    have:=(kP he).2.1
    exact absurd this (show ¬((0:Int)=1∨(0:Int)=2)by decide)
 have hdot:hd t2.text=46→ ∀r,dY false (t2.text++r) 0=true:=fun h46 r=>(tH (Tg h2 h46)).2
 have hno: ∀r,(aP false (t2.text++r) 0).2.2.2=false:=by
  rcases Mb h2 hd0 hs with hn|⟨c,D,r,hk,hb,hc,hD,hdd,hr⟩
  ·exact hn
  ·exfalso
   have hcc:c≠46:=by rcases hc with rfl|rfl<;>decide
   have hcd:av c=false:=by rcases hc with rfl|rfl<;>rfl
   have hE:=m3 (sg:=[]) hc (Or.inl rfl) hdd hD hr
   rw[List.nil_append]at hE
   have:=sB (W:=a) (y:=t2.text) f2 f4 hd0 (by rw[hb,eU];exact fun e=>absurd e hcc)
   rw[hb,hE]at this
   rw[hb,this]at he
   simp only[if_true]at he
   have:=(kP he).2.1
   exact absurd this (show ¬((0:Int)=1∨(0:Int)=2)by decide)
 refine⟨0,by omega,by omega,fun x r hx=> ?_⟩
 rw[Gq h hx,Mt h hv (by rw[dj h0];exact hd0) (by rw[dj h0];exact fun e=>hdot e r) (hno r)]
 rfl
end Go.Abs
set_option linter.unusedVariables false
set_option linter.unusedSimpArgs false
namespace Go.Abs
open Go Go.Proofs
section
variable {W P:List UInt8}{ty p:Int}
theorem jy {a b:List UInt8}(ha: ∀x∈a,av x=true)(hb: ∀x∈b,av x=true): ∀x∈a++b,av x=true:=by
 intro x hx
 rcases List.mem_append.1 hx with h|h
 ·exact ha x h
 ·exact hb x h
theorem Gm {W y:List UInt8}(hw: ∀b∈W,av b=true)(h0:W≠[]):av (hd (W++y))=true:=by
 rw[dj h0]
 cases W with
 |nil=>exact absurd rfl h0
 |cons c t=>exact hw c (by simp)
theorem Mm {P Q:List UInt8}(hP:gO P.reverse)(hQ:gO Q)(h:bi (bT (P++Q))=P):Q=[48]:=by
 have key: ∀(c:UInt8) (r:List UInt8),Q=c::r→c≠48→False:=by
  rintro c r rfl hc
  have h1:P++[c] <+: bT (P++c::r):=by
   have h2:P++c::r=(P++[c])++r:=by simp
   rw[h2]
   have go: ∀(n:Nat) (r:List UInt8),r.length=n→P++[c] <+: bT (P++[c]++r):=by
    intro n
    induction n with
    |zero=>
     intro r hr
     rw[List.eq_nil_of_length_eq_zero hr,List.append_nil,uz hc]
     exact List.prefix_refl _
    |succ n ih=>
     intro r hr
     rcases List.eq_nil_or_concat r with h3|⟨q,x,h3⟩
     ·rw[h3]at hr;cases hr
     ·rw[List.concat_eq_append]at h3
      rw[h3]at hr ⊢
      rw[←List.append_assoc]
      by_cases hx:x=48
      ·rw[hx,xE];exact ih q (by simpa using hr)
      ·rw[uz hx,List.append_assoc]
       exact List.prefix_append _ _
   exact go r.length r rfl
  have h2:=h1.length_le
  have h3:bT (P++c::r)≠[]:=fun e=>by rw[e]at h2;simp at h2
  unfold bi at h
  rw[if_neg h3]at h
  rw[h]at h2
  simp at h2
  omega
 rcases hQ with h1|⟨c,r,h1,h2⟩
 ·obtain⟨c,rfl⟩:=List.length_eq_one_iff.1 h1
  by_cases hc:c=48
  ·rw[hc]
  ·exact absurd (key c [] rfl hc) id
 ·exact absurd (key c r h1 h2) id
theorem O5 {Q:List UInt8}(hd: ∀b∈Q,av b=true)(hQ:gO Q)(h:valD 0 Q=0):Q=[48]:=by
 rcases hQ with h1|⟨c,r,h1,h2⟩
 ·obtain⟨c,rfl⟩:=List.length_eq_one_iff.1 h1
  have h3:=cm.1 (hd c (by simp))
  have h4:valD 0 [c]=0*10+(c.toNat-48):=by rw[du,ip]
  rw[h]at h4
  have:c=48:=UInt8.toNat.inj (by show c.toNat=48;omega)
  rw[this]
 ·have:=CO (c:=c) (r:=r) (by rw[←h1];exact hd) h2
  rw[←h1]at this
  omega
theorem Hi {t2:Tok}(h:RealOK W P 1 0)(h2:VT t2)(hs: ¬(t2.text=[69]∨t2.text=[68])){e:Nat}(he:rd (bc W P 1 0++t2.text)= .ok (⟨1,1,bc W P 1 0⟩,e))
  (hlt:e<(bc W P 1 0++t2.text).length) (hn:t2.kind=0→t2.text.length+e≤(bc W P 1 0++t2.text).length):nt ⟨1,1,bc W P 1 0⟩ t2:=by
 have h0:=(ln h2).1
 have hW0:=dV h.wl
 have hT:bc W P 1 0=W++46::P:=by unfold bc bo;rw[if_neg (by decide),if_neg (by simp),List.append_nil]
 have hsplit: ∀y,bc W P 1 0++y=W++46::(P++y):=fun y=>by rw[hT];simp
 have hl0:(bc W P 1 0).length=W.length+1+P.length:=by rw[hT];simp;omega
 rw[hsplit]at he hlt hn
 simp only[List.length_append,List.length_cons]at hlt hn
 rw[jE (Or.inl (Gm h.wd hW0))]at he
 have hsrc: ∀x,src ⟨1,1,bc W P 1 0⟩ x→ ∃W',lU W W'∧x=W'++46::P:=by
  intro x hx
  obtain⟨W',k1,k2⟩:=qF h hx
  exact⟨W',k1,by rw[k2];unfold bo;rw[if_neg (by decide),if_neg (by simp),List.append_nil]⟩
 cases hdg:av (hd t2.text)with
 |true=>
  rcases CP h2 hdg with⟨k1,k2⟩|⟨W2,P2,ty2,p2,k1,k2⟩
  ·exfalso
   have:=ic (W:=W) (P:=P++t2.text) (y:=[]) h.wd (jy h.pd k2) (by simp[h0]) rfl
   rw[List.append_nil]at this
   rw[this]at he
   have:=(kP he).2.2
   simp only[show (aP false [] 0).2.2.2=false from rfl,Bool.false_eq_true,if_false,List.length_append]at this
   omega
  ·have hnd:av (hd (46::(P2++bo ty2 p2)))=false:=rfl
   have hex: ∀y,(aP false (46::y) 0).2.2.2=false:=fun y=>qe (by rw[eU];decide)
   have:=ic (W:=W) (P:=P++W2) (y:=46::(P2++bo ty2 p2)) h.wd (jy h.pd k1.wd) (by simp[o4 h]) hnd
   rw[List.append_assoc,←k2,hex]at this
   rw[this]at he
   unfold real at he
   split at he
   ·cases he
   ·injection he with he
    injection he with he _
    unfold dh ey at he
    simp only[Bool.false_eq_true,and_false,if_false,if_true]at he
    injection he with _ _ he
    have hw:=(mz h (Or.inl rfl)).1
    unfold ed at he
    rw[hw,hT]at he
    have he':bi (bT (P++W2))=P:=by
     have:W++46::bi (bT (P++W2))=W++46::P:=by rw[←he];simp
     have:=List.append_cancel_left this
     injection this
    have hW2:=Mm h.pl k1.wl he'
    refine⟨1,Nat.le_refl 1,fun _=>⟨P2++bo ty2 p2,by rw[k2,hW2];rfl⟩,fun x r hx=> ?_⟩
    obtain⟨W',k3,k4⟩:=hsrc x hx
    have hx':x++(t2.text++r)=W'++46::((P++[48])++(46::(P2++(bo ty2 p2++r)))):=by rw[k4,k2,hW2];simp
    rw[hx',vW h k3 (Or.inr rfl) rfl (hex _),k4]
    congr 2
    simp
    omega
 |false=>
  have hno: ∀r,(aP false (t2.text++r) 0).2.2.2=false:=by
   rcases Mb h2 hdg hs with hh|⟨c,D,r,hk,hb,hc,hD,hdd,hr⟩
   ·exact hh
   ·exfalso
    have hE:=m3 (sg:=[]) hc (Or.inl rfl) hdd hD hr
    rw[List.nil_append]at hE
    have:=ic (W:=W) (P:=P) (y:=t2.text) h.wd h.pd (o4 h) hdg
    rw[hb,hE]at this
    rw[hb,this]at he
    simp only[if_true]at he
    have h3:=(kP he).2.2
    have h4:=hn hk
    simp only[List.length_nil]at h3
    omega
  refine⟨0,by omega,by omega,fun x r hx=> ?_⟩
  obtain⟨W',k3,k4⟩:=hsrc x hx
  have hx':x++(t2.text++r)=W'++46::(P++(t2.text++r)):=by rw[k4];simp
  rw[hx',vW h k3 (Or.inl rfl) (by rw[dj h0];exact hdg) (hno r),k4]
  congr 2
  simp
  omega
theorem P9 {sg D:List UInt8}(hsg:sg=[]∨sg=[45])(hd: ∀b∈D,av b=true)(h0:D≠[])(hl:D.length≤10):b7 (sg++D)=if sg=[]then((valD 0 D:Nat):Int)else -((valD 0 D:Nat):Int):=by
 unfold b7
 rcases hsg with rfl|rfl
 ·rw[List.nil_append,dJ hd h0 hl,if_pos rfl]
 ·rw[List.singleton_append,p5 hd h0 hl,if_neg (by simp)]
theorem Hj {t2:Tok}(h:RealOK W P ty p)(hp:ty=2∨p≠0)(h2:VT t2){e:Nat}(he:rd (bc W P ty p++t2.text)= .ok (⟨1,ty,bc W P ty p⟩,e))
  (hlt:e<(bc W P ty p++t2.text).length):nt ⟨1,ty,bc W P ty p⟩ t2:=by
 have h0:=(ln h2).1
 have hW0:=dV h.wl
 have hsplit: ∀y,bc W P ty p++y=W++46::(P++(bo ty p++y)):=fun y=>by unfold bc;simp
 rw[hsplit]at he hlt
 simp only[List.length_append,List.length_cons]at hlt
 cases hdg:av (hd t2.text)with
 |false=>
  refine⟨0,by omega,by omega,fun x r hx=> ?_⟩
  obtain⟨W',k3,k4⟩:=qF h hx
  have hx':x++(t2.text++r)=W'++46::(P++(bo ty p++([]++(t2.text++r)))):=by rw[k4];simp
  rw[hx',vX h hp k3 (Or.inl rfl) (by rw[dj h0];exact hdg),k4]
  congr 2
  simp
  omega
 |true=>
  rw[jE (Or.inl (Gm h.wd hW0))]at he
  obtain⟨sg,D,h1,hsg,h3,h4,h5,h6,h7⟩:=wR p
  obtain⟨L,hL,hT⟩: ∃L,((L=68∧ty=2)∨(L=69∧ty=1∧p≠0))∧bo ty p=L::(sg++D):=by
   unfold bo
   rcases h.ty with ht|ht
   ·have hp':p≠0:=hp.resolve_left (by rw[ht];decide)
    exact⟨69,Or.inr ⟨rfl,ht,hp'⟩,by rw[if_neg (by rw[ht];decide),if_pos hp',h1];rfl⟩
   ·exact⟨68,Or.inl ⟨rfl,ht⟩,by rw[if_pos ht,h1];rfl⟩
  have hLs:L=69∨L=68:=by rcases hL with h|h;exact Or.inr h.1;exact Or.inl h.1
  have hyd: ∀y,av (hd (L::y))=false:=fun y=>by rw[eU];rcases hLs with rfl|rfl<;>rfl
  rcases CP h2 hdg with⟨k1,k2⟩|⟨W2,P2,ty2,p2,k1,k2⟩
  ·exfalso
   have hE:=m3 (r:=[]) hLs hsg (jy h3 k2) (by simp[h4]) rfl
   have:=ic (W:=W) (P:=P) (y:=L::(sg++((D++t2.text)++[]))) h.wd h.pd (o4 h) (hyd _)
   rw[hE]at this
   have hy:bo ty p++t2.text=L::(sg++((D++t2.text)++[])):=by rw[hT];simp
   rw[hy,this]at he
   simp only[if_true]at he
   have h8:=(kP he).2.2
   rw[hT]at hlt
   simp only[List.length_append,List.length_cons]at h8 hlt
   omega
  ·have hW2:=dV k1.wl
   have hE:=m3 (r:=46::(P2++bo ty2 p2)) hLs hsg (jy h3 k1.wd) (by simp[h4]) rfl
   have:=ic (W:=W) (P:=P) (y:=L::(sg++((D++W2)++46::(P2++bo ty2 p2)))) h.wd h.pd (o4 h) (hyd _)
   rw[hE]at this
   have hy:bo ty p++t2.text=L::(sg++((D++W2)++46::(P2++bo ty2 p2))):=by rw[hT,k2];simp
   rw[hy,this]at he
   simp only[if_true]at he
   unfold real at he
   split at he
   ·cases he
   ·rename_i hlong
    injection he with he
    injection he with he _
    have hl3:(D++W2).length≤3:=by
     unfold jH at hlong
     simp only[Bool.and_true,Bool.or_eq_true,decide_eq_true_eq,not_or]at hlong
     have h8:=hlong.2
     rcases hsg with rfl|rfl
     ·rw[List.nil_append,(gH (jy h3 k1.wd)).1]at h8;omega
     ·rw[(gH (jy h3 k1.wd)).2]at h8;omega
    obtain⟨v,hv⟩: ∃v,v=b7 (sg++(D++W2)):=⟨_,rfl⟩
    have hvv:=P9 hsg (jy h3 k1.wd) (by simp[h4]) (by omega:(D++W2).length≤10)
    rw[←hv]at hvv
    have hbd:=(dL (D++W2) 0 (jy h3 k1.wd)).2
    have h10:10^(D++W2).length≤10^3:=Nat.pow_le_pow_right (by omega) hl3
    have hr1: -999≤v∧v≤999:=by
     rw[hvv]
     split<;>omega
    have hval:valD 0 (D++W2)=valD 0 D*10^W2.length+valD 0 W2:=by
     rw[←ph]
     unfold valD
     rw[List.foldl_append]
    have hW10:10≤10^W2.length:=by
     have:1≤W2.length:=by cases hq:W2 with|nil=>exact absurd hq hW2|cons c r=>simp
     calc 10=10^1:=rfl
      _≤10^W2.length:=Nat.pow_le_pow_right (by omega) this
    have hmul:valD 0 D*10≤valD 0 D*10^W2.length:=Nat.mul_le_mul_left _ hW10
    have hvp:v=p:=by
     unfold dh ey at he
     simp only[if_true,and_true]at he
     rw[←hv,qB h (Or.inl rfl) (Or.inl rfl)]at he
     have hin:Lib.itoa v=Lib.itoa p→v=p:=fun e=>by rw[←rR hr1.1 hr1.2,e,rR h.p1 h.p2]
     rcases hL with⟨rfl,ht⟩|⟨rfl,ht,hp0⟩
     ·subst ht
      rw[if_pos rfl]at he
      injection he with _ _ he
      unfold bc bo at he
      rw[if_pos rfl]at he
      apply hin
      have:(W++[46]++P++[68])++Lib.itoa v=(W++[46]++P++[68])++Lib.itoa p:=by rw[he];simp
      exact List.append_cancel_left this
     ·subst ht
      rw[if_neg (by decide)]at he
      split at he
      ·injection he with _ _ he
       unfold bc bo at he
       rw[if_neg (by decide),if_pos hp0]at he
       have:=congrArg List.length he
       simp at this
      ·injection he with _ _ he
       unfold bc bo at he
       rw[if_neg (by decide),if_pos hp0]at he
       apply hin
       have:(W++[46]++P++[69])++Lib.itoa v=(W++[46]++P++[69])++Lib.itoa p:=by rw[List.append_assoc (W++[46]++P),he];simp
       exact List.append_cancel_left this
    have hp0:p=0∧valD 0 W2=0:=by
     rcases hsg with rfl|rfl
     ·have h8:=h6 rfl
      rw[if_pos rfl]at hvv
      omega
     ·have h8:=h5 rfl
      rw[if_neg (by simp)]at hvv
      omega
    have hz:=O5 k1.wd k1.wl hp0.2
    refine⟨1,Nat.le_refl 1,fun _=>⟨P2++bo ty2 p2,by rw[k2,hz];rfl⟩,fun x r hx=> ?_⟩
    obtain⟨W',k3,k4⟩:=qF h hx
    have hx':x++(t2.text++r)=W'++46::(P++(bo ty p++([48]++(46::(P2++(bo ty2 p2++r)))))):=by rw[k4,k2,hz];simp
    rw[hx',vX h hp k3 (Or.inr ⟨rfl,hp0.1⟩) rfl,k4]
    congr 2
    simp
    omega
end
theorem NH {t t2:Tok}(h:VT t)(h2:VT t2)(hs: ¬iK t t2)(hl:Lex (t.text++t2.text) [t,t2]):nt t t2:=by
 obtain⟨e,h3,h4,h5⟩:=Qz (by rw[dj (ln h).1];exact(ln h).2) hl
 cases h with
 |name k=>exact Ln k h2 h3
 |int k1 k2=>exact NG k1 k2 h2 (fun e=>hs ⟨rfl,Or.inl rfl,e⟩) h3 h4
 |real k=>
  rename_i W P ty p
  by_cases hp:ty=2∨p≠0
  ·exact Hj k hp h2 h3 h4
  ·have ht:ty=1:=k.ty.resolve_right (fun e=>hp (Or.inl e))
   have hp0:p=0:=Classical.byContradiction fun e=>hp (Or.inr e)
   subst ht hp0
   refine Hi k h2 (fun e=>hs ⟨rfl,Or.inr ⟨rfl,?_⟩,e⟩) h3 h4 h5
   show (69:UInt8) ∉ bc W P 1 0
   unfold bc bo
   rw[if_neg (by decide),if_neg (by simp),List.append_nil]
   intro hm
   rcases List.mem_append.1 hm with hm|hm
   ·exact absurd (k.wd 69 hm) (by decide)
   ·rcases List.mem_cons.1 hm with hm|hm
    ·exact absurd hm (by decide)
    ·exact absurd (k.pd 69 hm) (by decide)
 |logic k=>
  rename_i a
  refine yV (a:=a) (lL (by simpa using k)) ?_ rfl
  unfold cD
  rw[if_pos k]
 |chars k1 k2=>exact Hh k2 h2 h3
 |word k=>
  rename_i a
  refine yV (a:=a) (jC k) ?_ rfl
  have:=lq a k
  unfold cD
  rw[if_neg (fun e=>e.elim this.1 this.2)]
 |sign k=>exact Lo k h2 h3
end Go.Abs
set_option linter.unusedVariables false
set_option linter.unusedSimpArgs false
set_option maxRecDepth 100000
namespace Go.Abs
open Go Go.Proofs
instance (t t2:Tok):Decidable (iK t t2):=by unfold iK;infer_instance
def apB (t t2:Tok):Prop:=iK t t2∨ ¬((bb false (t.text++t2.text)).e=0∧bX false (t.text++t2.text)=[t,t2])
instance (t t2:Tok):Decidable (apB t t2):=by unfold apB;infer_instance
def eJ:Tok→List Tok→List UInt8
 |_,[]=>[]
 |t,t2::l=>(if apB t t2 then [32]else [])++(t2.text++eJ t2 l)
def bQ:List Tok→List UInt8
 |[]=>[]
 |t::l=>t.text++eJ t l
theorem Jk: ∀w∈bj,∀c,w=[c]→opC c none 0= .ok (⟨2,0,[c]⟩,1)∧opC c (some 32) 0= .ok (⟨2,0,[c]⟩,1):=by
 intro w hw c hc
 subst hc
 simp only[bj,List.mem_cons,List.not_mem_nil,or_false,List.cons.injEq,and_true,reduceCtorEq,and_false,false_or]at hw
 rcases hw with rfl|rfl|rfl|rfl|rfl|rfl|rfl|rfl|rfl|rfl<;>exact⟨rfl,rfl⟩
theorem Gl {t:Tok}{x r:List UInt8}(h:VT t)(hx:src t x)(hr:r=[]∨ ∃q,r=32::q):rd (x++r)= .ok (t,x.length):=by
 have hh:hd r=0∨hd r=32:=by
  rcases hr with rfl|⟨q,rfl⟩
  ·exact Or.inl rfl
  ·exact Or.inr rfl
 have hpar:aY (hd r)=false:=by rcases hh with h|h<;>rw[h]<;>rfl
 have hdig:av (hd r)=false:=by rcases hh with h|h<;>rw[h]<;>rfl
 have h39:hd r≠39:=by rcases hh with h|h<;>rw[h]<;>decide
 have h46:hd r≠46:=by rcases hh with h|h<;>rw[h]<;>decide
 have hexp:(aP false r 0).2.2.2=false:=qe (by rcases hh with h|h<;>rw[h]<;>decide)
 cases h with
 |name k=>
  rename_i a
  have:x=a:=by
   refine fB (t:=⟨0,0,a⟩) ?_ hx
   have hl:=(eN k).2.1
   show av (hd a)=false
   cases hq:av (hd a)with
   |false=>rfl
   |true=>rw[mE hq]at hl;cases hl
  rw[this];exact Gk k hpar
 |int k1 k2=>rw[Gq k1 hx];exact Mt k1 k2 hdig (fun e=>absurd e h46) hexp
 |real k=>
  rename_i W P ty p
  obtain⟨W',k3,k4⟩:=qF k hx
  by_cases hp:ty=2∨p≠0
  ·have e:x++r=W'++46::(P++(bo ty p++([]++r))):=by rw[k4];simp
   rw[e,vX k hp k3 (Or.inl rfl) hdig,k4]
   congr 2
   simp
   omega
  ·have ht:ty=1:=k.ty.resolve_right (fun e=>hp (Or.inl e))
   have hp0:p=0:=Classical.byContradiction fun e=>hp (Or.inr e)
   subst ht hp0
   have hT:bo 1 0=[]:=by unfold bo;rw[if_neg (by decide),if_neg (by simp)]
   rw[hT,List.append_nil]at k4
   have e:x++r=W'++46::(P++r):=by rw[k4];simp
   rw[e,vW k k3 (Or.inl rfl) hdig hexp,k4]
   congr 2
   simp
   omega
 |logic k=>
  rename_i a
  have:x=a:=fB (t:=⟨1,5,a⟩) (by rcases k with rfl|rfl<;>rfl) hx
  rw[this,(tH (lL (by simpa using k))).1]
  unfold cD
  rw[if_pos k]
 |chars k1 k2=>
  rename_i u
  have:x=bh u:=fB (t:=⟨1,6,bh u⟩) rfl hx
  rw[this];exact Cl k2 h39
 |word k=>
  rename_i a
  have:x=a:=fB (t:=⟨2,0,a⟩) ((by decide: ∀w∈bK,av (hd w)=false) a k) hx
  have hn:=lq a k
  rw[this,(tH (jC k)).1]
  unfold cD
  rw[if_neg (fun e=>e.elim hn.1 hn.2)]
 |sign k=>
  rename_i a
  have:x=a:=fB (t:=⟨2,0,a⟩) ((by decide: ∀w∈bj,av (hd w)=false) a k) hx
  rw[this]
  rcases xx a k with⟨c,rfl,hc⟩|⟨c,d,rfl,hc,ho⟩
  ·rw[List.singleton_append,mH hc]
   have:=Jk [c] k c rfl
   rcases hr with rfl|⟨q,rfl⟩
   ·exact this.1
   ·exact this.2
  ·rw[List.cons_append,mH hc]
   exact ho
theorem LI {u:List UInt8}{l:List Tok}(h:Lex u l):Lex (32::u) l:=by
 have hb:aQ (32::u)=aQ u+1:=by rw[aQ,if_pos rfl]
 cases h with
 |nil h=>exact .nil (by rw[hb,List.drop_succ_cons];exact h)
 |cons h1 h2 h3 h4=>exact .cons (by rw[hb,List.drop_succ_cons];exact h1) h2 h3 h4
theorem vI {u:List UInt8}{t:Tok}{e:Nat}{l:List Tok}(h0:u≠[])(h32:hd u≠32)(hr:rd u= .ok (t,e))(hl:Lex (u.drop e) l):Lex u (t::l):=by
 have hb:aQ u=0:=by
  cases u with
  |nil=>rfl
  |cons c r=>unfold aQ;rw[if_neg (show c≠32 from h32)]
 exact .cons (by rw[hb];rfl) h0 hr hl
theorem Px: ∀(l:List Tok) (t:Tok) (x:List UInt8),VT t→(∀u∈l,VT u)→src t x→Lex (x++eJ t l) (t::l)
 |[],t,x,h,hl,hx=>by
  obtain⟨h0,h32⟩:=ML h hx
  have hr:=Gl (r:=[]) h hx (Or.inl rfl)
  rw[List.append_nil]at hr
  show Lex (x++[]) [t]
  rw[List.append_nil]
  exact vI h0 h32 hr (.nil (by rw[List.drop_length];rfl))
 |t2::l,t,x,h,hl,hx=>by
  obtain⟨h0,h32⟩:=ML h hx
  have h2:VT t2:=hl t2 (by simp)
  have hn0:x++eJ t (t2::l)≠[]:=by simp[h0]
  have hn32:hd (x++eJ t (t2::l))≠32:=by rw[dj h0];exact h32
  have hrest: ∀y,src t2 y→Lex (y++eJ t2 l) (t2::l):=fun y hy=>Px l t2 y h2 (fun u hu=>hl u (List.mem_cons_of_mem _ hu)) hy
  by_cases ha:apB t t2
  ·have e:eJ t (t2::l)=32::(t2.text++eJ t2 l):=by rw[eJ,if_pos ha];rfl
   rw[e]at hn0 hn32 ⊢
   refine vI hn0 hn32 (Gl h hx (Or.inr ⟨_,rfl⟩)) ?_
   rw[kF]
   exact LI (hrest _ (Or.inl rfl))
  ·have e:eJ t (t2::l)=t2.text++eJ t2 l:=by rw[eJ,if_neg ha];rfl
   rw[e]at hn0 hn32 ⊢
   have hsp: ¬iK t t2:=fun e=>ha (Or.inl e)
   have hsc:=Classical.byContradiction fun e=>ha (Or.inr e)
   have hlx:=(t6 hsc.1).2.1
   rw[hsc.2]at hlx
   obtain⟨k,k1,k2,k3⟩:=NH h h2 hsp hlx
   refine vI hn0 hn32 (k3 x _ hx) ?_
   rw[←List.drop_drop,kF]
   rcases Nat.lt_or_ge k 1 with h5|h5
   ·have:k=0:=by omega
    subst this
    exact hrest _ (Or.inl rfl)
   ·have:k=1:=by omega
    subst this
    obtain⟨q,hq⟩:=k2 rfl
    have e2:(t2.text++eJ t2 l).drop 1=(46::q)++eJ t2 l:=by rw[hq];rfl
    rw[e2]
    exact hrest _ (Or.inr ⟨hq,rfl⟩)
theorem NO: ∀(l:List Tok),(∀u∈l,VT u)→Lex (bQ l) l
 |[],_=> .nil rfl
 |t::l,h=>Px l t t.text (h t (by simp)) (fun u hu=>h u (List.mem_cons_of_mem _ hu)) (Or.inl rfl)
def km (b:UInt8):Prop:=32≤b.toNat∧b.toNat≤126
theorem Ed: ∀i:Fin 256,aY (UInt8.ofNat i.val)=true→32≤(UInt8.ofNat i.val).toNat∧(UInt8.ofNat i.val).toNat≤126:=by decide
theorem Rk {b:UInt8}(h:aY b=true):km b:=by
 have:=Ed ⟨b.toNat,b.toNat_lt⟩
 unfold km
 simpa using this (by simpa using h)
theorem MV {s:List UInt8}(h:bp s=0): ∀b∈s,km b:=by
 unfold bp at h
 split at h
 ·cases h
 ·split at h
  ·rename_i h2;exact kV.1 h2
  ·cases h
theorem Rv {s:List UInt8}(h: ∀b∈s,km b)(hl:s.length≤1320):bp s=0:=by
 unfold bp
 rw[if_neg (by omega),if_pos (kV.2 h)]
instance (b:UInt8):Decidable (km b):=by unfold km;infer_instance
theorem MZ {t:Tok}(h:VT t): ∀b∈t.text,km b:=by
 cases h with
 |name k=>exact fun b hb=>Rk ((eN k).2.2.1 b hb)
 |int k1 k2=>exact fun b hb=>tw ((dW k1).2.1 b hb)
 |real k=>exact MV (zp k)
 |logic k=>rcases k with rfl|rfl<;>decide
 |chars k1 k2=>exact kV.1 (wC k1)
 |word k=>rename_i a;exact(by decide: ∀w∈bK,∀b∈w,km b) a k
 |sign k=>rename_i a;exact(by decide: ∀w∈bj,∀b∈w,km b) a k
theorem yZ: ∀(l:List Tok) (t:Tok),(∀u∈l,VT u)→ ∀b∈eJ t l,km b
 |[],t,h,b,hb=>by cases hb
 |t2::l,t,h,b,hb=>by
  unfold eJ at hb
  rcases List.mem_append.1 hb with hb|hb
  ·split at hb
   ·rw[List.mem_singleton.1 hb];decide
   ·cases hb
  ·rcases List.mem_append.1 hb with hb|hb
   ·exact MZ (h t2 (by simp)) b hb
   ·exact yZ l t2 (fun u hu=>h u (List.mem_cons_of_mem _ hu)) b hb
theorem NL: ∀(l:List Tok),(∀u∈l,VT u)→ ∀b∈bQ l,km b
 |[],h,b,hb=>by cases hb
 |t::l,h,b,hb=>by
  rcases List.mem_append.1 hb with hb|hb
  ·exact MZ (h t (by simp)) b hb
  ·exact yZ l t (fun u hu=>h u (List.mem_cons_of_mem _ hu)) b hb
theorem zt {l:List Tok}(h: ∀u∈l,VT u)(hn:l.length≤300)(hl:(bQ l).length≤1320):(bb false (bQ l)).e=0∧bX false (bQ l)=l:=
 Eo (Rv (NL l h) hl) (NO l h) hn
theorem Ev: ∀i:Fin 256,(aV (UInt8.ofNat i.val)=true→aV (upB (UInt8.ofNat i.val))=true)∧(aY (UInt8.ofNat i.val)=true→aY (upB (UInt8.ofNat i.val))=true)∧j8 (upB (UInt8.ofNat i.val))=false:=by decide
theorem yD (c:UInt8):(aV c=true→aV (upB c)=true)∧(aY c=true→aY (upB c)=true)∧j8 (upB c)=false:=by
 have:=Ev ⟨c.toNat,c.toNat_lt⟩
 simpa using this
theorem Mr {q:UInt8}: ∀(n:Nat) (l:List UInt8),l.length≤n→ ∀t k,bW q l=some (t,k)→ ∀b∈t,b∈l:=by
 intro n
 induction n with
 |zero=>
  intro l hl t k h
  have:l=[]:=List.eq_nil_of_length_eq_zero (by omega)
  subst this
  cases h
 |succ n ih=>
  intro l hl t k h b hb
  cases l with
  |nil=>cases h
  |cons c r=>
   simp only[List.length_cons]at hl
   by_cases hc:c=q
   ·subst hc
    cases r with
    |nil=>
     rw[fy (fun d t h=>by cases h)]at h
     injection h with h
     injection h with h _
     rw[←h]at hb;cases hb
    |cons d r=>
     by_cases hd:d=c
     ·subst hd
      rw[gg]at h
      cases hq:bW d r with
      |none=>rw[hq]at h;cases h
      |some x=>
       rw[hq]at h
       simp only[Option.map_some,Option.some.injEq,Prod.mk.injEq]at h
       rw[←h.1]at hb
       simp only[List.length_cons]at hl
       rcases List.mem_cons.1 hb with hb|hb
       ·rw[hb];simp
       ·exact List.mem_cons_of_mem _ (List.mem_cons_of_mem _ (ih r (by omega) x.1 x.2 hq b hb))
     ·rw[fy (fun e t h=>by injection h with h _;rw[←h];exact hd)]at h
      injection h with h
      injection h with h _
      rw[←h]at hb;cases hb
   ·rw[il hc]at h
    cases hq:bW q r with
    |none=>rw[hq]at h;cases h
    |some x=>
     rw[hq]at h
     simp only[Option.map_some,Option.some.injEq,Prod.mk.injEq]at h
     rw[←h.1]at hb
     rcases List.mem_cons.1 hb with hb|hb
     ·rw[hb];simp
     ·exact List.mem_cons_of_mem _ (ih r (by omega) x.1 x.2 hq b hb)
theorem RT {d:List UInt8}(hd: ∀b∈d,av b=true){t:Tok}(h:cg d= .ok t):VT t:=by
 unfold cg at h
 split at h
 ·cases h
 ·rename_i hh
  simp only[not_or]at hh
  injection h with h
  obtain⟨h1,h2,h3⟩:=hh
  have h0:d≠[]:=fun e=>h2 (by rw[e];rfl)
  have hN:b7 d=(valD 0 d:Nat):=by unfold b7;rw[dJ hd h0 (by omega)]
  rw[hN]at h3 h
  have hT:Lib.itoa ((valD 0 d:Nat):Int)=Lib.decDigits (valD 0 d):=g8
  rw[←h,hT]
  exact .int (jz.2 ⟨fo 10 _ (by omega) (by omega),gC _,vC _⟩) (by rw[iM];omega)
theorem uy {t w:List UInt8}(h:el t=some w):w∈bK:=by
 unfold el at h
 repeat' split at h
 all_goals first|(injection h with h;subst h;decide)|cases h
theorem Us {c:UInt8}{d:Option UInt8}{q:Tok×Nat}(h:opC c d 0= .ok q):VT q.1:=by
 unfold opC at h
 split at h
 ·rename_i w hw
  injection h with h
  rw[←h]
  exact .word (uy hw)
 ·split at h
  ·rename_i hh
   injection h with h
   rw[←h]
   exact .sign (by simpa using hh.2)
  ·split at h
   ·rename_i w hw
    injection h with h
    rw[←h]
    exact .word (uy hw)
   ·split at h
    ·rename_i hh
     injection h with h
     rw[←h]
     exact .sign (by simpa using hh)
    ·cases h
theorem Ut {v:List UInt8}{t:Tok}{e:Nat}(hv: ∀b∈v,km b)(h0:v≠[])(h32:hd v≠32)(h:rd v= .ok (t,e)):VT t:=by
 obtain⟨c,r,rfl⟩: ∃c r,v=c::r:=by
  cases v with
  |nil=>exact absurd rfl h0
  |cons c r=>exact⟨c,r,rfl⟩
 rw[eU]at h32
 by_cases hl:aV c=true
 ·rw[xl (by rw[eU];exact hl)]at h
  split at h
  ·cases h
  ·rename_i h31
   injection h with h
   injection h with h _
   rw[←h]
   have hp:=eE (p:=aY) (c::r)
   have hcp:aY c=true:=by unfold aY;rw[hl];rfl
   have hc1:(c::r).takeWhile aY=c::r.takeWhile aY:=by rw[List.takeWhile_cons,if_pos hcp]
   refine .name ?_
   unfold gK qt
   simp only[Bool.and_eq_true,decide_eq_true_eq,Bool.not_eq_true',List.length_map]
   refine⟨⟨⟨by omega,?_⟩,?_⟩,?_⟩
   ·rw[hc1];exact(yD c).1 hl
   ·rw[List.all_eq_true]
    intro b hb
    obtain⟨x,hx,rfl⟩:=List.mem_map.1 hb
    exact(yD x).2.1 (hp x hx)
   ·rw[List.any_eq_false]
    intro b hb
    obtain⟨x,hx,rfl⟩:=List.mem_map.1 hb
    rw[(yD x).2.2];simp
 ·by_cases hn:av c=true∨(c=46∧av (hd r)=true)
  ·rw[jE (u:=c::r) hn]at h
   have hf:=D8 (s:=c::r) (n:=0) (c:=c) rfl hn
   rw[h]at hf
   unfold b9 at h
   simp only at h
   split at h
   ·split at h
    ·rename_i t' ht
     injection h with h
     injection h with h _
     rw[←h]
     exact RT (fun b hb=>im b hb) ht
    ·cases h
   ·obtain⟨k1,k2,_⟩:=kP h
    obtain⟨W,P,p,k3,k4⟩:=hf k1 k2
    obtain⟨a,b,x⟩:=t
    simp only at k1 k3 k4
    rw[k1,k4]
    exact .real k3
  ·simp only[not_or,not_and]at hn
   by_cases h46:c=46
   ·have hd2:av (hd ((c::r).drop 1))=false:=by simpa using hn.2 h46
    rw[Ms (by rw[eU];exact h46) hd2]at h
    split at h
    ·rename_i hok
     injection h with h
     injection h with h _
     rw[←h]
     unfold cD
     split
     ·rename_i hh;exact .logic hh
     ·rename_i hh
      unfold dY at hok
      simp only[Bool.and_eq_true,Bool.or_eq_true,decide_eq_true_eq]at hok
      rcases hok.2 with(hok|hok)|hok
      ·exact .word (by simpa using hok)
      ·exact absurd (Or.inl hok) hh
      ·exact absurd (Or.inr hok) hh
    ·cases h
   ·by_cases hq:c=39∨c=34
    ·rw[vV (by rw[eU];exact hq)]at h
     unfold cE at h
     split at h
     ·cases h
     ·rename_i u k hu
      split at h
      ·cases h
      ·injection h with h
       injection h with h _
       rw[←h]
       refine .chars (kV.2 fun b hb=> ?_) (by omega)
       exact hv b (List.mem_cons_of_mem _ (Mr _ _ (Nat.le_refl _) u k hu b hb))
    ·have hs:tK c=true:=by
      unfold tK
      simp only[not_or]at hq
      have hc0:c≠0:=by
       rintro rfl
       have:=(hv 0 (by simp)).1
       exact absurd this (by decide)
      have hl':aV c=false:=by simpa using hl
      have hd':av c=false:=by simpa using hn.1
      rw[hl',hd',decide_eq_false h46,decide_eq_false hq.1,decide_eq_false hq.2,decide_eq_false h32,decide_eq_false hc0]
      rfl
     rw[mH hs]at h
     exact Us h
theorem So: ∀{u:List UInt8} {l:List Tok},Lex u l→(∀b∈u,km b)→ ∀t∈l,VT t:=by
 intro u l h
 induction h with
 |nil _=>intro _ t ht;cases ht
 |cons h1 h2 h3 h4 ih=>
  rename_i u v t e l
  intro hu x hx
  have hv: ∀b∈v,km b:=fun b hb=>hu b (List.mem_of_mem_drop (by rw[h1];exact hb))
  rcases List.mem_cons.1 hx with rfl|hx
  ·refine Ut hv h2 ?_ h3
   cases hq:v with
   |nil=>exact absurd hq h2
   |cons c r=>exact od u c r (by rw[h1,hq])
  ·exact ih (fun b hb=>hv b (List.mem_of_mem_drop hb)) x hx
theorem Rn {s:List UInt8}(h:(bb false s).e=0): ∀t∈bX false s,VT t:=by
 obtain⟨h1,h2,_⟩:=t6 h
 exact So h2 (MV h1)
theorem CQ {t:Tok}(h:VT t):t.text.length≤1320:=by
 cases h with
 |name k=>have:=(eN k).1;simp only;omega
 |int k1 k2=>have:=(dW k1).1;simp only;omega
 |real k=>have:=(ON k).2.2.2;simp only;omega
 |logic k=>rcases k with rfl|rfl<;>decide
 |chars k1 k2=>
  rename_i u
  have:=mD u
  have:=qa u
  show (bh u).length≤1320
  omega
 |word k=>rename_i a;exact(by decide: ∀w∈bK,w.length≤1320) a k
 |sign k=>rename_i a;exact(by decide: ∀w∈bj,w.length≤1320) a k
theorem MY {t:Tok}(h:VT t):eZ t.text=some t:=by
 have e:bQ [t]=t.text:=by show t.text++[]=_;rw[List.append_nil]
 have:=zt (l:=[t]) (fun u hu=>by rw[List.mem_singleton.1 hu];exact h) (by simp) (by rw[e];exact CQ h)
 rw[e]at this
 exact gr.2 this
theorem wc {t:Tok}:gw t=0↔VT t:=by
 constructor
 ·intro h
  obtain⟨a,b,x⟩:=t
  unfold gw at h
  simp only at h
  split at h
  ·rename_i ha
   subst ha
   unfold dN at h
   split at h
   ·rename_i hb
    subst hb
    split at h
    ·rename_i hf
     split at h
     ·cases h
     ·exact .int hf (by omega)
    ·cases h
   ·split at h
    ·split at h
     ·rename_i hs
      obtain⟨h1,h2⟩:=gr.1 hs
      exact Rn h1 _ (by rw[h2];simp)
     ·cases h
    ·cases h
  ·split at h
   ·rename_i hk
    split at h
    ·rename_i hb
     subst hb
     split at h
     ·rename_i ha
      subst ha
      split at h
      ·rename_i hc;exact .name hc
      ·cases h
     ·rename_i ha
      have ha2:a=2:=hk.resolve_left ha
      subst ha2
      split at h
      ·rename_i hc
       rw[Bool.or_eq_true]at hc
       rcases hc with hc|hc
       ·exact .word (by simpa using hc)
       ·exact .sign (by simpa using hc)
      ·cases h
    ·cases h
   ·cases h
 ·intro h
  have hs:=MY h
  cases h with
  |name k=>
   show (if(0:Int)=1 then _ else if(0:Int)=0∨(0:Int)=2 then _ else _)=0
   rw[if_neg (by decide),if_pos (by decide)]
   simp[k]
  |int k1 k2=>
   show dN 0 _=0
   unfold dN
   rw[if_pos rfl,if_pos k1,if_neg (by simp only;omega)]
  |real k=>exact C2 k
  |logic k=>
   show dN 5 _=0
   unfold dN
   rw[if_neg (by decide),if_pos (by decide),if_pos hs]
  |chars k1 k2=>exact C1 k1 k2
  |word k=>
   show (if(2:Int)=1 then _ else if(2:Int)=0∨(2:Int)=2 then _ else _)=0
   rw[if_neg (by decide),if_pos (by decide)]
   simp[k]
  |sign k=>
   show (if(2:Int)=1 then _ else if(2:Int)=0∨(2:Int)=2 then _ else _)=0
   rw[if_neg (by decide),if_pos (by decide)]
   simp[k]
end Go.Abs
