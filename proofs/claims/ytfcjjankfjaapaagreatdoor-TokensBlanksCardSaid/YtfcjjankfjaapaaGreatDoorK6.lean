/-
  The statement TokensBlanksCardSaid, proved; part 7 of 8 of its proof.
  The reference's next token is the program's.
  The chapter's examples, by running the interpreter.
  The tokens of any text in free form.
  Which names, constants and tokens are valid: the two ways in which it is asked.
  The reference's errors of constants and tokens.
  Both ways to ask which constants and tokens are valid answer the same.
  TokensChecks: which constants and tokens are valid.
  TokensConstants: the constant that a text is, the characters of a constant, and the constant of characters.
  REAL and DOUBLE constants: their canonical texts.
  Tokens at the beginning of a list of characters, in free form.
  Canonical texts of tokens, read at the beginning of a longer text.
  The digits of a constant.
  The digits of a constant, by the reference; the constant of digits, by both.
  Valid tokens behind each other: when a text is split into them again.
  When two tokens beside each other are read as they are, they are so whatever comes behind.
  Two tokens beside each other: whatever comes behind.
  A REAL or DOUBLE constant beside a token: whatever comes behind.
  The canonical text of valid tokens is split into them; what is read from a text is valid.
  Two ways to read that agree character by character read the same tokens.
  Fixed form: the characters that count, up to a quote, and their places.
  Fixed form: the reference's small functions, and the program's text without blanks.
  Fixed form: the reference's steps are the program's.
  Fixed form: the reference's split.
  A text without blanks is split into the same tokens, and loses nothing more.
  Blanks without meaning: a text in fixed form with more blanks has the same tokens.
  TokensFixed: the law.
  The text builder; whether a blank must stand between two tokens; the canonical text.
  The canonical text of tokens, by the program and by the reference.
  How long the canonical texts are of what is read from a text.
  TokensAgain: the law.
-/
import Derived.Test.YtfcjjankfjaapaaGreatDoorK5
import Derived.Test.YtfcjjankfjaapaaGreatDoorK2
import Derived.KernelRfl
set_option linter.all false
set_option linter.unusedSectionVars false
set_option linter.unusedVariables false
set_option linter.unusedSimpArgs false
set_option maxRecDepth 100000
namespace Go.Abs
open Go Go.Proofs
def fX:Except Int (Tok×Nat×List Nat)→Except Int (Tok×Nat)
 | .ok q=> .ok (q.1,q.2.1)
 | .error e=> .error e
section
variable {s:List UInt8}{n:Nat}
theorem Al (q:Except Int (Tok×Nat)):fX (noK q)=q:=by cases q<;>rfl
theorem fD:fX (cS s n)=cr s n:=by
 unfold cS
 cases cr s n<;>rfl
theorem kQ: ∀w∈bT,w≠eW∧w≠ee:=by decide
theorem kA {w:List UInt8}(hw:w∈ce)(hb:bv s n w=true):w=cq false s n:=((eZ (gx w hw) hb).2.1).symm
theorem xM {l:List (List UInt8)}{p:List UInt8→Bool}{w:List UInt8}(hm:w∈l)(hp:p w=true)(hu: ∀x∈l,p x=true→x=w):l.find? p=some w:=by
 cases hf:l.find? p with
 |none=>
  rw[List.find?_eq_none]at hf
  exact absurd hp (hf w hm)
 |some x=>
  have h1:=List.find?_some hf
  have h2:=List.mem_of_find?_eq_some hf
  rw[hu x h2 h1]
theorem ri {l:List (List UInt8)}{p:List UInt8→Bool}(h: ∀x∈l,p x=false):l.find? p=none:=by
 rw[List.find?_eq_none]
 intro x hx
 rw[h x hx]
 simp
theorem jo {w:List UInt8}(h:w∈bT):w∈ce:=by rw[gy];exact List.mem_append_left _ h
theorem lm {w:List UInt8}(h:w∈([eW,ee]:List (List UInt8))):w∈ce:=by rw[gy];exact List.mem_append_right _ h
theorem Pg (h:atC false s n=46):sR s n=if(bg false s n).2.2 then .ok (cz (bg false s n).1,(bg false s n).2.1)else .error 7:=by
 have e:bg false s n=(cq false s n,dotEnd false s n,dk false s n):=by unfold bg;rw[if_pos h]
 have hany:=Ik h
 rw[e]at hany ⊢
 simp only at hany ⊢
 unfold sR yR
 cases hok:dk false s n with
 |false=>
  rw[hok]at hany
  have hno: ∀w∈ce,bv s n w=false:=by
   intro w hw
   cases hb:bv s n w with
   |false=>rfl
   |true=>
    have:ce.any (bv s n)=true:=List.any_eq_true.2 ⟨w,hw,hb⟩
    rw[hany]at this;cases this
  rw[ri (fun x hx=>hno x (jo hx)),ri (fun x hx=>hno x (lm hx))]
  rfl
 |true=>
  rw[hok]at hany
  rw[List.any_eq_true]at hany
  obtain⟨w,hw,hb⟩:=hany
  have hT:=kA hw hb
  have hE:=(eZ (gx w hw) hb).2.2.2
  rw[←hT,hE]
  rw[gy,List.mem_append]at hw
  simp only[if_true]
  rcases hw with hw|hw
  ·rw[xM hw hb (fun x hx hp=>by rw[kA (jo hx) hp,←hT])]
   have:=kQ w hw
   unfold cz
   rw[if_neg (by intro hh;rcases hh with hh|hh;exact this.1 hh;exact this.2 hh)]
  ·rw[ri (fun x hx=> ?_),xM hw hb (fun x hx hp=>by rw[kA (lm hx) hp,←hT])]
   ·unfold cz
    rw[if_pos (by simpa using hw)]
   ·cases hbx:bv s n x with
    |false=>rfl
    |true=>
     have h1:=kA (jo hx) hbx
     rw[←hT]at h1
     have:=kQ x hx
     rw[h1]at this
     simp only[List.mem_cons,List.not_mem_nil,or_false]at hw
     rcases hw with hw|hw
     ·exact absurd hw this.1
     ·exact absurd hw this.2
theorem Cb {c:UInt8}(h:aY c=true):c.toNat<128:=by
 unfold aY at h
 simp only[Bool.or_eq_true,decide_eq_true_eq]at h
 rcases h with(h|h)|h
 ·exact kE h
 ·have:=cm.1 h;omega
 ·omega
theorem KX:up (cj false aY s n)=((s.drop n).takeWhile aY).map upB:=by
 rw[cX mM]
 exact m4 _ fun b hb=>Cb (dy _ b hb)
def beg (c:UInt8)(d:Option UInt8):List UInt8→Bool
 |[x]=>decide (c=x)
 |[x,y]=>decide (c=x)&&decide (d=some y)
 |_=>false
theorem BD: ∀i:Fin 256,aU (UInt8.ofNat i.val)=false→upB (UInt8.ofNat i.val)=UInt8.ofNat i.val:=by decide
theorem BC {c:UInt8}(h:aU c=false):upB c=c:=by
 have:=BD ⟨c.toNat,c.toNat_lt⟩
 simpa[h]using this
theorem BE: ∀i:Fin 256,∀y∈([61,42,47,62]:List UInt8),(upB (UInt8.ofNat i.val)=y↔UInt8.ofNat i.val=y):=by decide
theorem MX {c y:UInt8}(hy:y∈([61,42,47,62]:List UInt8)):upB c=y↔c=y:=by
 have:=BE ⟨c.toNat,c.toNat_lt⟩ y hy
 simpa using this
theorem NU {c x:UInt8}(h:s[n]? =some c)(hl:aU c=false):bv s n [x]=beg c s[n+1]? [x]:=by
 have hn:=eI h
 rw[List.getElem?_eq_getElem hn]at h
 injection h with h
 unfold bv beg
 rw[List.drop_eq_getElem_cons hn,h]
 simp only[List.length_singleton,List.take_succ_cons,List.take_zero,List.map_cons,List.map_nil,BC hl]
 have:decide (n+1≤s.length)=true:=by simp;omega
 rw[this,Bool.true_and]
 simp
theorem NV {c x y:UInt8}(h:s[n]? =some c)(hl:aU c=false)(hy:y∈([61,42,47,62]:List UInt8)):bv s n [x,y]=beg c s[n+1]? [x,y]:=by
 have hn:=eI h
 rw[List.getElem?_eq_getElem hn]at h
 injection h with h
 unfold bv beg
 simp only[List.length_cons,List.length_nil]
 by_cases h2:n+1<s.length
 ·have:decide (n+(0+1+1)≤s.length)=true:=by simp;omega
  rw[this,Bool.true_and,List.drop_eq_getElem_cons hn,List.drop_eq_getElem_cons h2,List.getElem?_eq_getElem h2,h]
  simp only[List.take_succ_cons,List.take_zero,List.map_cons,List.map_nil,BC hl]
  have:=MX (c:=s[n+1]) hy
  by_cases h3:s[n+1]=y
  ·rw[this.2 h3,h3];simp
  ·have h4:upB s[n+1]≠y:=fun hh=>h3 (this.1 hh)
   simp[h3,h4]
 ·have:decide (n+(0+1+1)≤s.length)=false:=by simp;omega
  rw[this,List.getElem?_eq_none (by omega)]
  simp
def q5:List (List UInt8×List UInt8):=lI++lY bm
theorem Jo (l m:List (List UInt8×List UInt8)): ∀r,eV s n (l++m) r=eV s n m (eV s n l r):=by
 induction l with
 |nil=>intro r;rfl
 |cons x l ih=>intro r;rw[List.cons_append,eV,eV,ih]
def sv (c:UInt8)(d:Option UInt8)(n:Nat):List (List UInt8×List UInt8)→Except Int (Tok×Nat)→Except Int (Tok×Nat)
 |[],r=>r
 |x::l,r=>sv c d n l (if beg c d x.1=true∧toE r<n+x.1.length then .ok (⟨2,0,x.2⟩,n+x.1.length)else r)
def EI (x:List UInt8):Bool:=match x with|[_]=>true|[_,y]=>([61,42,47,62]:List UInt8).contains y|_=>false
theorem Av {c:UInt8}(h:s[n]? =some c)(hl:aU c=false): ∀(l:List (List UInt8×List UInt8)) (r:Except Int (Tok×Nat)),(∀x∈l,EI x.1=true)→eV s n l r=sv c s[n+1]? n l r
 |[],r,_=>rfl
 |x::l,r,hs=>by
  have hx:=hs x List.mem_cons_self
  have hb:bv s n x.1=beg c s[n+1]? x.1:=by
   obtain⟨x1,x2⟩:=x
   simp only at hx ⊢
   match x1,hx with
   |[a],_=>exact NU h hl
   |[a,y],hy=>exact NV h hl (List.contains_iff_mem.1 hy)
  rw[eV,sv,hb,Av h hl l _ (fun y hy=>hs y (List.mem_cons_of_mem _ hy))]
theorem zI: ∀x∈q5,EI x.1=true:=by decide
def opC (c:UInt8)(d:Option UInt8)(n:Nat):Except Int (Tok×Nat):=
 match ec [c,d.getD 0]with
 |some w=> .ok (⟨2,0,w⟩,n+2)
 |none=>if d.getD 0≠0∧bm.contains [c,d.getD 0]then .ok (⟨2,0,[c,d.getD 0]⟩,n+2)
  else match ec [c]with
   |some w=> .ok (⟨2,0,w⟩,n+1)
   |none=>if bm.contains [c]then .ok (⟨2,0,[c]⟩,n+1)else .error 7
theorem yo {a b:UInt8}{w:List UInt8}(h:ec [a,b]=some w):b=61:=by
 unfold ec at h
 simp only[List.cons.injEq,and_true]at h
 split at h
 ·rename_i h1;exact h1.2
 ·split at h
  ·rename_i h1;exact h1.2
  ·split at h
   ·rename_i h1;exact h1.2
   ·split at h
    ·rename_i h1;exact h1.2
    ·simp at h
theorem Kd {c:UInt8}(h:s[n]? =some c)(hc:c≠32):dl false s n=opC c s[n+1]? n:=by
 obtain⟨ha,hb⟩:=ld (fx:=false) h hc
 unfold dl opC
 simp only[ha,hb,b7,cE]
 by_cases h2:n+1<s.length
 ·rw[if_pos h2]<;>(cases ec [c,(s[n+1]?).getD 0]<;>rfl)
 ·rw[if_neg h2,List.getElem?_eq_none (by omega)]
  cases hsp:ec [c,(none:Option UInt8).getD 0]with
  |some w=>exact absurd (yo hsp) (by decide)
  |none=>
   simp only[Option.getD_none,ne_eq,not_true_eq_false,false_and,if_false]<;>(cases ec [c]<;>rfl)
theorem Oe (c:UInt8)(d:Option UInt8)(n:Nat):sv c d n q5 (.error 7)=opC c d n:=by
 have hd:d=none∨d=some 61∨d=some 42∨d=some 47∨d=some 62∨ ∃x,d=some x∧x≠61∧x≠42∧x≠47∧x≠62:=by
  cases d with
  |none=>exact Or.inl rfl
  |some x=>
   by_cases h1:x=61
   ·exact Or.inr (Or.inl (by rw[h1]))
   ·by_cases h2:x=42
    ·exact Or.inr (Or.inr (Or.inl (by rw[h2])))
    ·by_cases h3:x=47
     ·exact Or.inr (Or.inr (Or.inr (Or.inl (by rw[h3]))))
     ·by_cases h4:x=62
      ·exact Or.inr (Or.inr (Or.inr (Or.inr (Or.inl (by rw[h4])))))
      ·exact Or.inr (Or.inr (Or.inr (Or.inr (Or.inr ⟨x,rfl,h1,h2,h3,h4⟩))))
 have hL: ∀(x:UInt8),x∈([60,62,61,47,42,43,45,40,41,44,58,37]:List UInt8)∨x ∉([60,62,61,47,42,43,45,40,41,44,58,37]:List UInt8):=fun x=>Classical.em _
 rcases hL c with hm|hm
 ·simp only[List.mem_cons,List.not_mem_nil,or_false]at hm
  rcases hm with rfl|rfl|rfl|rfl|rfl|rfl|rfl|rfl|rfl|rfl|rfl|rfl<;>rcases hd with rfl|rfl|rfl|rfl|rfl|⟨x,rfl,h1,h2,h3,h4⟩<;>
   simp[sv,q5,lI,lY,bm,beg,toE,opC,ec, *]
 ·simp only[List.mem_cons,List.not_mem_nil,or_false,not_or]at hm
  obtain⟨n1,n2,n3,n4,n5,n6,n7,n8,n9,n10,n11,n12⟩:=hm
  simp[sv,q5,lI,lY,bm,beg,toE,opC,ec,n1,n2,n3,n4,n5,n6,n7,n8,n9,n10,n11,n12]
theorem NW {c:UInt8}(h:s[n]? =some c)(hc:c≠32)(hl:aU c=false):pA s n=dl false s n:=by
 have e:pA s n=eV s n q5 (.error 7):=(Jo lI (lY bm) _).symm
 rw[e,Av h hl _ _ zI,Oe,Kd h hc]
theorem Oy {c:UInt8}(h:s[n]? =some c)(hc:c≠32):yY s n c=fX (bI false s n c):=by
 obtain⟨ha,hb⟩:=ld (fx:=false) h hc
 unfold yY bI
 by_cases hl:aU c=true
 ·rw[if_pos hl,if_pos hl,KX,cX mM,cY mM]
  split<;>rfl
 ·rw[if_neg hl,if_neg hl]
  have hl':aU c=false:=by simpa using hl
  have e2:atC false s (n+1)=(s[n+1]?).getD 0:=rfl
  rw[e2]
  by_cases hd:(ah c||(decide (c=46)&&ah ((s[n+1]?).getD 0)))=true
  ·rw[if_pos hd,if_pos hd,Al]
   refine pZ h ?_
   rw[Bool.or_eq_true,Bool.and_eq_true,decide_eq_true_eq]at hd
   exact hd
  ·rw[if_neg hd,if_neg hd]
   by_cases h46:c=46
   ·rw[if_pos h46,if_pos h46,Pg (by rw[ha,h46])]
    split<;>rfl
   ·rw[if_neg h46,if_neg h46]
    by_cases hq:c=39∨c=34
    ·rw[if_pos hq,if_pos hq,fD]
    ·rw[if_neg hq,if_neg hq,Al,NW h hc hl']
def pG {α:Type}:Except Int α→Prop
 | .ok _=>True
 | .error e=>e=4∨e=7∨e=8∨e=28
theorem Aq {q:Except Int (Tok×Nat)}(h:pG q):pG (noK q):=by cases q<;>exact h
theorem Hq:pG (cr s n):=by
 unfold cr
 split
 ·exact Or.inr (Or.inl rfl)
 ·split
  ·exact Or.inr (Or.inr (Or.inl rfl))
  ·trivial
theorem MF {whole part digits:List UInt8}{letter:UInt8}{ok:Bool}{e:Nat}:pG (real whole part digits letter ok e):=by
 unfold real
 split
 ·exact Or.inr (Or.inl rfl)
 ·trivial
theorem Hg {fx:Bool}:pG (bO fx s n):=by
 unfold bO
 simp only
 split
 ·unfold bU
  split
  ·exact trivial
  ·rename_i e he
   split at he
   ·injection he with he
    subst he
    exact Or.inr (Or.inr (Or.inr rfl))
   ·cases he
 ·exact MF
theorem Qx {fx:Bool}:pG (dl fx s n):=by
 unfold dl
 simp only
 split
 ·trivial
 ·split
  ·trivial
  ·split
   ·trivial
   ·split
    ·trivial
    ·exact Or.inr (Or.inl rfl)
theorem yt {fx:Bool}{out:List Tok}:pG (de fx s out n):=by
 unfold de
 split
 ·unfold nQ
  split
  ·exact Or.inr (Or.inl rfl)
  ·trivial
 ·unfold bI
  split
  ·split
   ·exact Or.inl rfl
   ·trivial
  ·split
   ·exact Aq Hg
   ·split
    ·split
     ·trivial
     ·exact Or.inr (Or.inl rfl)
    ·split
     ·have:=Hq (s:=s) (n:=n)
      unfold cS
      cases hq:cr s n with
      |ok q=>trivial
      |error e=>rw[hq]at this;exact this
     ·exact Aq Qx
end
end Go.Abs
set_option linter.unusedVariables false
set_option maxRecDepth 100000
namespace Go.Abs
open Go Go.Proofs
theorem Eh (E:Env): ∀n,LimR (evn E) (evn E n)
 |0=>⟨fun f args μ r h=>(by simp[evn]at h),fun H lv c s μ r h=>(by simp[evn]at h),fun H lv c s μ r h=>(by simp[evn]at h),fun f pv args μ r h=>(by simp[evn]at h)⟩
 |n+1=>by
  have ih:=Eh E n
  refine⟨fun f args μ r h=> ?_,fun H lv c s μ r h=> ?_,fun H lv c s μ r h=> ?_,fun f pv args μ r h=> ?_⟩
  ·obtain⟨N,hN⟩:=rq ih (E:=E) (f:=f) (args:=args) (μ:=μ) r h
   refine⟨N+1,fun m hm=> ?_⟩
   obtain⟨q,rfl⟩: ∃q,m=q+1:=⟨m-1,by omega⟩
   exact hN q (by omega)
  ·obtain⟨N,hN⟩:=vH ih (P:=E.P) (H:=H) (lv:=lv) (c:=c) (s:=s) (μ:=μ) r h
   refine⟨N+1,fun m hm=> ?_⟩
   obtain⟨q,rfl⟩: ∃q,m=q+1:=⟨m-1,by omega⟩
   exact hN q (by omega)
  ·obtain⟨N,hN⟩:=AD ih (P:=E.P) (H:=H) (lv:=lv) (c:=c) (s:=s) (μ:=μ) r h
   refine⟨N+1,fun m hm=> ?_⟩
   obtain⟨q,rfl⟩: ∃q,m=q+1:=⟨m-1,by omega⟩
   exact hN q (by omega)
  ·obtain⟨N,hN⟩:=ql ih (E:=E) (f:=f) (pv:=pv) (args:=args) (μ:=μ) r h
   refine⟨N+1,fun m hm=> ?_⟩
   obtain⟨q,rfl⟩: ∃q,m=q+1:=⟨m-1,by omega⟩
   exact hN q (by omega)
theorem Py {E:Env}{n:Nat}{f:FuncId}{args:List LV}{μ:Mu}{out:Out}(h:(evn E n).call f args μ=some out):(ev E).call f args μ=some out:=
 mP ((Eh E n).call f args μ out h)
theorem Im:(evn E 150).call 11 [] []=some (.ret (LV.bool true) []):=by kernel_rfl
theorem QX:(ev E).call 11 [] []=some (.ret (LV.bool true) []):=Py Im
end Go.Abs
set_option linter.unusedVariables false
set_option linter.unusedSimpArgs false
set_option maxRecDepth 100000
namespace Go.Abs
open Go Go.Proofs
section
variable {μ:Mu}{s:List UInt8}
theorem l3 {out:List Tok}{n:Nat}:de false s out n=bI false s n ((s[n]?).getD 0):=by
 unfold de uJ
 rfl
noncomputable def FH (μ:Mu):Option (Nat×Int)×List Tok×List Nat→St
 |(none,out,_)=>uc (aA out) μ
 |(some (n,e),_,_)=>ub [] (n:Int) e μ
theorem QH (hs:s.length≤200000){out:List Tok}{st:St}: ∀(k n:Nat),aF (s.drop n)=k→n≤s.length→sc (ev E) s (aA out) ((n+k:Nat):Int) μ=some st→sc (ev E) s (aA out) (n:Int) μ=some st:=by
 have e32: ∀c:UInt8,decide ((c.toNat:Int)=32)=decide (c=32):=fun c=>co (k:=32) (by omega)
 intro k
 induction k with
 |zero=>intro n hb hn h;exact h
 |succ k ih=>
  intro n hb hn h
  have hlt:n<s.length:=by
   rcases Nat.lt_or_ge n s.length with h1|h1
   ·exact h1
   ·rw[List.drop_eq_nil_of_le h1]at hb;simp[aF]at hb
  rw[List.drop_eq_getElem_cons hlt,aF]at hb
  by_cases hc:s[n]=32
  ·rw[if_pos hc]at hb
   refine aW ?_
   have:decide (s[n]=32)=true:=by simp[hc]
   rw[xa,cI hlt,cond_true,b9 hlt,aa,e32,this,cond_true,bV (by omega)]
   refine ih (n+1) (by omega) hlt ?_
   have:n+1+k=n+(k+1):=by omega
   rw[this]
   exact h
  ·rw[if_neg hc]at hb;cases hb
theorem P5 (hs:s.length≤200000): ∀(k n:Nat) (out:List Tok) (kept:List Nat),s.length<n+k→n≤s.length→out.length≤n→
  sc (ev E) s (aA out) (n:Int) μ=some (FH μ (bA false s k n out kept)):=by
 have e32: ∀c:UInt8,decide ((c.toNat:Int)=32)=decide (c=32):=fun c=>co (k:=32) (by omega)
 intro k
 induction k with
 |zero=>intro n out kept hk hn ho;omega
 |succ k ih=>
  intro n out kept hk hn ho
  have hb:=gL (s.drop n)
  rw[List.length_drop]at hb
  refine QH hs _ n rfl hn ?_
  unfold bA
  by_cases hm:s.length≤n+aF (s.drop n)
  ·rw[if_pos hm]
   refine aW ?_
   rw[xa,c6 hm,cond_false]
   rfl
  ·rw[if_neg hm]
   have hlt:n+aF (s.drop n)<s.length:=by omega
   obtain⟨c,hc1,hc2⟩:=lR hlt
   obtain⟨m,hmd⟩: ∃m,m=n+aF (s.drop n):=⟨_,rfl⟩
   rw[←hmd]at hlt hc1 ⊢
   have hg:s[m]=c:=by rw[List.getElem?_eq_getElem hlt]at hc1;simpa using hc1
   have hf:=iD (fx:=false) (out:=out) hc1 hc2
   have he:=yt (s:=s) (n:=m) (fx:=false) (out:=out)
   have hT:de false s out m=bI false s m c:=by rw[l3,hc1];rfl
   have hN:=Oy hc1 hc2
   rw[←hT]at hN
   refine aW ?_
   have h32:decide (c=32)=false:=by simp[hc2]
   rw[xa,cI hlt,cond_true,b9 hlt,aa,e32,hg,h32,cond_false]
   cases ht:de false s out m with
   |error e=>
    rw[ht]at he hN
    have hG:E5 (ev E) s (aA out) (m:Int) μ=some (tP [] (m:Int) e μ):=by
     refine aZ ?_
     rw[En,Nv hs hlt,hg,hN,ad,nB]
     simp only[fX,stB]
     have:decide (e=0)=false:=by
      simp only[decide_eq_false_iff_not]
      rcases he with h|h|h|h<;>rw[h]<;>decide
     rw[this]
     rfl
    rw[hG,aa,Gi]
    rfl
   |ok q=>
    rw[ht]at hf hN
    obtain⟨f1,f2,f3⟩:=hf
    have ha:[CV.agg [CV.int .i64 q.1.kind,CV.int .i64 q.1.type,CV.str q.1.text]]=aA [q.1]:=rfl
    have happ:aA out++aA [q.1]=aA (out++[q.1]):=by simp[aA]
    have hG:E5 (ev E) s (aA out) (m:Int) μ=some (tQ s (aA (out++[q.1])) (q.2.1:Int) μ):=by
     refine aZ ?_
     have hG12:HP (ev E) s (aA out) q.1.kind q.1.type q.1.text (q.2.1:Int) 0 μ=some (qJ s (aA (out++[q.1])) (q.2.1:Int) μ):=by
      refine aZ ?_
      rw[Ma,ha,vd (by simp;omega),az,happ]
     rw[En,Nv hs hlt,hg,hN,ad,nB]
     simp only[fX,stB]
     rw[decide_true,Bool.not_true,cond_false,hG12,aa,CC]
    rw[hG,aa,Gj]
    exact ih q.2.1 _ _ (by omega) f2 (by simp;omega)
theorem rT {fx:Bool}: ∀(k n:Nat) (out:List Tok) (kept:List Nat) (m:Nat) (e:Int),(bA fx s k n out kept).1=some (m,e)→e≠0
 |0,n,out,kept,m,e,h=>by simp[bA]at h
 |k+1,n,out,kept,m,e,h=>by
  unfold bA at h
  split at h
  ·cases h
  ·have he:=yt (s:=s) (n:=n+aF (s.drop n)) (fx:=fx) (out:=out)
   cases ht:de fx s out (n+aF (s.drop n))with
   |error x=>
    rw[ht]at h he
    simp only[Option.some.injEq,Prod.mk.injEq]at h
    obtain⟨_,rfl⟩:=h
    rcases he with h|h|h|h<;>rw[h]<;>decide
   |ok q=>
    rw[ht]at h
    exact rT k _ _ _ m e h
theorem Q0 (hs:s.length≤200000):(ev E).call 18 [LV.str s] μ=some (.ret (.ltup [if bp s=0 then LV.cv (CV.sl (aA (ct false s)))else A3,LV.int .i64 ((bc false s).n:Int),LV.int .i64 (bc false s).e]) μ):=by
 refine aO ?_
 rw[Sp,Ns hs]
 simp only[ad,aq,aa,am,ao,aj,ae,ak,az,cond_true,cond_false,Bool.not_true,Bool.not_false,av,au,ar]
 by_cases ht:bp s=0
 ·have h1:decide (bp s=0)=true:=by simp[ht]
  rw[h1,Bool.not_true,cond_false,if_pos ht]
  have hl:=P5 (μ:=μ) hs (s.length+1) 0 [] [] (by omega) (by omega) (by simp)
  have e0:((0:Nat):Int)=0:=rfl
  have et:aA []=[]:=rfl
  rw[e0,et]at hl
  have hne:=rT (s:=s) (fx:=false) (s.length+1) 0 [] []
  obtain⟨r,hr⟩: ∃r,bA false s (s.length+1) 0 [] []=r:=⟨_,rfl⟩
  rw[hr]at hl hne
  have hsc:bc false s=if(bF r.1).2=0 then(if 300<r.2.1.length then⟨r.2.1,r.2.2,0,8⟩else⟨r.2.1,r.2.2,r.2.1.length,0⟩)else⟨r.2.1,r.2.2,(bF r.1).1,(bF r.1).2⟩:=by
   unfold bc;rw[if_pos ht,hr]
  have hG:M5 (ev E) s μ=some (my (aA (ct false s)) ((bc false s).n:Int) (bc false s).e μ):=by
   refine aZ ?_
   rw[OE,hl,aa]
   unfold ct
   rw[hsc]
   obtain⟨x,o,q⟩:=r
   have hlen:(aA o).length=o.length:=by simp[aA]
   cases x with
   |none=>
    have hz:(bF (none:Option (Nat×Int))).2=0:=rfl
    rw[if_pos hz]
    simp only[FH]
    rw[GH,hlen]
    by_cases h3:300<o.length
    ·have:decide ((300:Int)<(o.length:Int))=true:=by simp;omega
     rw[this,cond_true,if_pos h3]
     rfl
    ·have:decide ((300:Int)<(o.length:Int))=false:=by simp;omega
     rw[this,cond_false,if_neg h3]
     rfl
   |some w=>
    obtain⟨m,e⟩:=w
    have he:=hne m e rfl
    have hz: ¬(bF (some (m,e))).2=0:=he
    rw[if_neg hz]
    simp only[FH]
    rw[GG]
    have hz2:(if(bF (some (m,e))).2=0 then o else [])=[]:=if_neg hz
    simp only[hz2]
    rfl
  rw[hG,aa,Gg]
 ·have h1:decide (bp s=0)=false:=by simp[ht]
  have hsc:bc false s=⟨[],[],0,bp s⟩:=by unfold bc;rw[if_neg ht]
  rw[h1,Bool.not_false,cond_true,if_neg ht,hsc]
  rfl
theorem yp {fx:Bool}: ∀(k n:Nat) (out:List Tok) (kept:List Nat),out.length≤n→n≤s.length→(bA fx s k n out kept).2.1.length≤s.length
 |0,n,out,kept,h1,h2=>by unfold bA;simp only;omega
 |k+1,n,out,kept,h1,h2=>by
  unfold bA
  split
  ·simp only;omega
  ·rename_i hm
   obtain⟨c,hc1,hc2⟩:=lR (s:=s) (n:=n) (by omega)
   have hf:=iD (fx:=fx) (out:=out) hc1 hc2
   cases ht:de fx s out (n+aF (s.drop n))with
   |error e=>simp only;omega
   |ok q=>
    rw[ht]at hf
    obtain⟨f1,f2,f3⟩:=hf
    exact yp k q.2.1 _ _ (by simp;omega) f2
theorem MJ {fx:Bool}:(ct fx s).length≤s.length:=by
 unfold ct bc
 have:=yp (s:=s) (fx:=fx) (s.length+1) 0 [] [] (by simp) (by omega)
 split
 ·split
  ·simp only
   split
   ·split<;>exact this
   ·exact this
  ·simp
 ·simp
end
end Go.Abs
set_option linter.unusedVariables false
set_option linter.unusedSimpArgs false
set_option maxRecDepth 100000
namespace Go.Abs
open Go Go.Proofs
section
variable {μ:Mu}{s:List UInt8}
theorem Ms: ∀i:Fin 256,(decide ((97:Int)≤IntKind.wrap .i64 (IntKind.wrap .u8 ((BitVec.ofInt (IntKind.bits .u8) (i.val:Int) ||| BitVec.ofInt (IntKind.bits .u8) (32:Int)).toNat:Int)))&&decide (IntKind.wrap .i64 (IntKind.wrap .u8 ((BitVec.ofInt (IntKind.bits .u8) (i.val:Int) ||| BitVec.ofInt (IntKind.bits .u8) (32:Int)).toNat:Int))≤(122:Int)))=aU (UInt8.ofNat i.val):=by decide
theorem JA {c:UInt8}:(ev E).call 133 [LV.int .u8 (c.toNat:Int)] μ=some (.ret (LV.bool (aU c)) μ):=by
 refine aO ?_
 have h:=Ms ⟨c.toNat,UInt8.toNat_lt c⟩
 have e:UInt8.ofNat c.toNat=c:=by simp
 rw[e]at h
 rw[Rs,sA]
 simp only[ad,aq,aa,am,ao,aj,ae,ak,az,cond_true,cond_false,Bool.not_true,Bool.not_false,av,au,ar]
 rw[←h]
theorem PF {c:UInt8}:(ev E).call 114 [LV.int .u8 (c.toNat:Int)] μ=some (.ret (LV.bool (ah c)) μ):=by
 refine aO ?_
 have hc:=UInt8.toNat_lt c
 rw[Rn,cp (by omega) (by omega),sA]
 simp only[ad,aq,aa,am,ao,aj,ae,ak,az,cond_true,cond_false,Bool.not_true,Bool.not_false,av,au,ar]
 have h1:decide ((48:Int)≤(c.toNat:Int))=decide (48≤c.toNat):=by simp;omega
 have h2:decide ((c.toNat:Int)≤(57:Int))=decide (c.toNat≤57):=by simp;omega
 rw[h1,h2]
 rfl
theorem Qi (hs:s.length≤200000): ∀(k n:Nat),n+k=s.length→u4 (ev E) s (s.length:Int) (n:Int) μ=some (if(s.drop n).all aY then uy μ else ux false μ):=by
 intro k
 induction k with
 |zero=>
  intro n hn
  refine aW ?_
  rw[EE,c6 (by omega),cond_false]
  have:s.drop n=[]:=List.drop_eq_nil_of_le (by omega)
  rw[this]
  rfl
 |succ k ih=>
  intro n hn
  refine aW ?_
  have hlt:n<s.length:=by omega
  have hd:s.drop n=s[n]::s.drop (n+1):=List.drop_eq_getElem_cons hlt
  rw[EE,cI hlt,cond_true,b9 hlt,aa,JA,bV (by omega),ih (n+1) (by omega),hd,List.all_cons]
  simp only[ad,aq,aa,am,ao,aj,ae,ak,az,cond_true,cond_false,Bool.not_true,Bool.not_false,av,au,ar,PF]
  rw[ih (n+1) (by omega)]
  have h1:decide ((s[n].toNat:Int)=95)=decide (s[n].toNat=95):=by simp;omega
  rw[h1]
  unfold aY
  cases aU s[n]<;>cases ah s[n]<;>cases decide (s[n].toNat=95)<;>simp
def mJ (p:UInt8→Bool)(s:List UInt8):Bool:=match s with|[]=>false|c::_=>p c
def sD (s:List UInt8):Bool:=decide (s.length≤31)&&mJ aU s&&s.all aY
theorem Rk (hs:s.length≤200000):(ev E).call 95 [LV.str s] μ=some (.ret (LV.bool (sD s)) μ):=by
 refine aO ?_
 rw[SU]
 cases s with
 |nil=>rfl
 |cons c r=>
  have h0:decide (c::r=[])=false:=by simp
  have h1:bo (c::r) 0=some c:=rfl
  rw[h0,cond_false,h1,aa,JA]
  simp only[ad,aq,aa,am,ao,aj,ae,ak,az,cond_true,cond_false,Bool.not_true,Bool.not_false,av,au,ar]
  have hG:Ni (ev E) (c::r) μ=some (pm ((c::r).all aY) μ):=by
   refine aZ ?_
   have:=Qi (μ:=μ) hs (c::r).length 0 (by omega)
   have e0:((0:Nat):Int)=0:=rfl
   rw[e0,List.drop_zero]at this
   rw[OU,this,aa]
   cases (c::r).all aY with
   |true=>rw[if_pos rfl,Hc]
   |false=>rw[if_neg (by simp),Hb]
  rw[hG,aa,GF]
  unfold sD
  rw[show mJ aU (c::r)=aU c from rfl]
  have h2:decide ((31:Int)<((c::r).length:Int))= !decide ((c::r).length≤31):=by
   by_cases h:(c::r).length≤31
   ·rw[decide_eq_true h];exact decide_eq_false (by omega)
   ·rw[decide_eq_false h];exact decide_eq_true (by omega)
  rw[h2]
  generalize(c::r).all aY=y
  cases decide ((c::r).length≤31)<;>cases aU c<;>rfl
def lG (c:UInt8):Bool:=decide (97≤c.toNat)&&decide (c.toNat≤122)
theorem Qd (hs:s.length≤200000): ∀(k n:Nat),n+k=s.length→yL (ev E) s (n:Int) μ=some (if(s.drop n).any lG then um false μ else un μ):=by
 intro k
 induction k with
 |zero=>
  intro n hn
  refine aW ?_
  rw[Ez,c6 (by omega),cond_false]
  have:s.drop n=[]:=List.drop_eq_nil_of_le (by omega)
  rw[this]
  rfl
 |succ k ih=>
  intro n hn
  refine aW ?_
  have hlt:n<s.length:=by omega
  have hd:s.drop n=s[n]::s.drop (n+1):=List.drop_eq_getElem_cons hlt
  rw[Ez,cI hlt,cond_true,b9 hlt,aa,aa,bV (by omega),ih (n+1) (by omega),hd,List.any_cons]
  have h1:decide ((97:Int)≤(s[n].toNat:Int))=decide (97≤s[n].toNat):=by simp;omega
  have h2:decide ((s[n].toNat:Int)≤122)=decide (s[n].toNat≤122):=by simp;omega
  rw[h1,h2]
  unfold lG
  cases decide (97≤s[n].toNat)<;>cases decide (s[n].toNat≤122)<;>simp
def lC (s:List UInt8):Bool:=sD s&& !s.any lG
theorem Q9 (hs:s.length≤200000):(ev E).call 53 [LV.str s] μ=some (.ret (LV.bool (lC s)) μ):=by
 refine aO ?_
 rw[SE,Rk hs]
 simp only[ad,aq,aa,am,ao,aj,ae,ak,az,cond_true,cond_false,Bool.not_true,Bool.not_false,av,au,ar]
 have hG:M9 (ev E) s μ=some (pg (!s.any lG) μ):=by
  refine aZ ?_
  have:=Qd (μ:=μ) hs s.length 0 (by omega)
  have e0:((0:Nat):Int)=0:=rfl
  rw[e0,List.drop_zero]at this
  rw[OJ,this,aa]
  cases s.any lG with
  |true=>rw[if_pos rfl,GT];rfl
  |false=>rw[if_neg (by simp),GU];rfl
 rw[hG,aa,Gp]
 unfold lC
 cases sD s<;>rfl
theorem Dk: ∀i:Fin 256,(upB (UInt8.ofNat i.val)=UInt8.ofNat i.val)↔lG (UInt8.ofNat i.val)=false:=by decide
theorem Pe (c:UInt8):upB c=c↔lG c=false:=by
 have:=Dk ⟨c.toNat,UInt8.toNat_lt c⟩
 simpa using this
theorem kG: ∀(l:List UInt8),l.map upB=l↔l.any lG=false
 |[]=>by simp
 |c::r=>by
  rw[List.map_cons,List.any_cons,List.cons.injEq,Pe,kG r,Bool.or_eq_false_iff]
theorem Qe {l:List (List UInt8)}{x:List UInt8}(hl:l.length≤1000000): ∀(k j:Nat) (b:Bool),j+k=l.length→
  yM (ev E) x b (bw l) (l.length:Int) (j:Int) μ=some (uo (b||(l.drop j).contains x) μ):=by
 intro k
 induction k with
 |zero=>
  intro j b hj
  refine aW ?_
  rw[EA,c6 (by omega),cond_false]
  have:l.drop j=[]:=List.drop_eq_nil_of_le (by omega)
  rw[this]
  simp
 |succ k ih=>
  intro j b hj
  refine aW ?_
  have hlt:j<l.length:=by omega
  have hd:l.drop j=l[j]::l.drop (j+1):=List.drop_eq_getElem_cons hlt
  have hg:(bw l)[j]? =some (CV.str l[j]):=by simp[bw,hlt]
  rw[EA,cI hlt,cond_true,ey,hg,aa,gP,aa,bV (by omega),ih (j+1) _ (by omega),ih (j+1) _ (by omega),hd,List.contains_cons]
  have e:(x == l[j])=decide (l[j]=x):=by
   by_cases h:l[j]=x
   ·simp[h]
   ·have: ¬x=l[j]:=fun e=>h e.symm
    simp[h,this]
  rw[e]
  cases b<;>simp
theorem Nu {l:List (List UInt8)}{x:List UInt8}(hl:l.length≤1000000):(ev E).call 54 [LV.cv (CV.sl (bw l)),LV.str x] μ=some (.ret (LV.bool (l.contains x)) μ):=by
 refine aO ?_
 have e:(bw l).length=l.length:=by simp[bw]
 have:=Qe (μ:=μ) (l:=l) (x:=x) hl l.length 0 false (by omega)
 have e0:((0:Nat):Int)=0:=rfl
 rw[e0,List.drop_zero,Bool.false_or]at this
 rw[SF,e,this,aa,GV]
def eo (t:List UInt8):Bool:=decide (t.length≤10)&&t.all ah&&mJ (fun c=> !decide (c=48)||decide (t=[48])) t
def gi (k:Int)(t:List UInt8):Int:=
 if k=0 then(if eo t then(if 2147483647<valD 0 t then 28 else 0)else 3)
 else if k=1∨k=2∨k=5∨k=6 then(if gl t=some ⟨1,k,t⟩then 0 else 3)else 15
def lh (t:Tok):Int:=
 if t.kind=1 then gi t.type t.text
 else if t.kind=0∨t.kind=2 then
  if t.type=0 then(if t.kind=0 then(if lC t.text then 0 else 4)else(if bT.contains t.text||bm.contains t.text then 0 else 7))else 3
 else 15
end
end Go.Abs
set_option linter.unusedVariables false
set_option linter.unusedSimpArgs false
set_option maxRecDepth 100000
namespace Go.Abs
open Go Go.Proofs
section
variable {μ:Mu}{s:List UInt8}
def wb (k:Int)(t:List UInt8):Int:=if(bc false t).e=0∧ct false t=[⟨1,k,t⟩]then 0 else 3
def p8 (k:Int)(t:List UInt8):Int:=if 122<t.length∨bp t≠0 then 3 else wb k t
theorem RV {l:List Tok}:cF (if bp s=0 then LV.cv (CV.sl (aA (ct false s)))else A3)=some (aA (ct false s)):=by
 by_cases ht:bp s=0
 ·rw[if_pos ht];rfl
 ·rw[if_neg ht]
  have hsc:bc false s=⟨[],[],0,bp s⟩:=by unfold bc;rw[if_neg ht]
  have:ct false s=[]:=by unfold ct;rw[hsc];exact if_neg ht
  rw[this];rfl
theorem Pa {t:Tok}{k:Int}{s:List UInt8}:(decide (t.kind=1)&&(decide (t.type=k)&&(decide (t.text=s)&&true)))=decide (t=⟨1,k,s⟩):=by
 obtain⟨a,b,c⟩:=t
 exact KU ⟨a,b,c⟩ ⟨1,k,s⟩
theorem O7 {k:Int}(hs:s.length≤200000):M4 (ev E) k s μ=some (j3 (wb k s) μ):=by
 refine aZ ?_
 rw[OD,Q0 hs]
 simp only[ad,aq,aa,am,ao,aj,ae,ak,az,cond_true,cond_false,Bool.not_true,Bool.not_false,av,au,ar]
 rw[RV (l:=[]),aa]
 unfold wb
 by_cases he:(bc false s).e=0
 ·rw[decide_eq_true he,Bool.not_true,cond_false]
  have hl:(aA (ct false s)).length=(ct false s).length:=by simp[aA]
  rw[hl]
  match h:ct false s with
  |[]=>rw[if_neg (by simp)];rfl
  |[t]=>
   have e1:bZ (aA [t]) (0:Int)=some t.cv:=rfl
   rw[show decide ((([t]:List Tok).length:Int)=1)=true from rfl,Bool.not_true,cond_false,e1,aa,bB,Pa]
   by_cases ht:t=⟨1,k,s⟩
   ·rw[decide_eq_true ht,if_pos ⟨he,by rw[ht]⟩];rfl
   ·rw[decide_eq_false ht,if_neg (fun e=>ht (by simpa using e.2))];rfl
  |a::b::r=>
   have:decide (((a::b::r).length:Int)=1)=false:=by simp;omega
   rw[this,if_neg (by simp)];rfl
 ·rw[decide_eq_false he,if_neg (fun e=>he e.1)];rfl
theorem O6 {k:Int}(hs:s.length≤200000):sb (ev E) k s μ=some (mw (p8 k s) μ):=by
 refine aZ ?_
 rw[OC,Ns hs]
 simp only[ad,aq,aa,am,ao,aj,ae,ak,az,cond_true,cond_false,Bool.not_true,Bool.not_false,av,au,ar]
 rw[O7 hs,aa,Gf]
 unfold p8
 by_cases h1:122<s.length
 ·rw[if_pos (Or.inl h1),show decide ((122:Int)<(s.length:Int))=true from decide_eq_true (by omega)];rfl
 ·rw[show decide ((122:Int)<(s.length:Int))=false from decide_eq_false (by omega),cond_false]
  by_cases h2:bp s=0
  ·rw[decide_eq_true h2,if_neg (by simp[h1,h2])];rfl
  ·rw[decide_eq_false h2,if_pos (Or.inr h2)];rfl
def uP (t:List UInt8):Bool:=decide (t.length=10)&&(decide (digR t 0=10)&&(mJ (fun c=> !decide (c=48)) t&& !(Op.bytesLess t cJ||decide (t=cJ))))
def wc (k:Int)(t:List UInt8):Int:=
 if !(decide (0≤k)&&decide (k≤6))||(decide (k=3)||decide (k=4))then 15
 else if k=0∧uP t=true then 28 else p8 k t
theorem O5 {k:Int}(hs:s.length≤200000):M3 (ev E) k s μ=some (mv (if k=0∧uP s=true then 28 else p8 k s) μ):=by
 refine aZ ?_
 rw[OB]
 have h47:=yU (μ:=μ) hs (n:=0) (Nat.zero_le _)
 have e0:((0:Nat):Int)=0:=rfl
 rw[e0]at h47
 rw[h47]
 simp only[ad,aq,aa,am,ao,aj,ae,ak,az,cond_true,cond_false,Bool.not_true,Bool.not_false,av,au,ar]
 rw[O6 hs,aa,Ge]
 by_cases h0:k=0
 ·rw[decide_eq_true h0,cond_true]
  unfold uP
  by_cases h1:s.length=10
  ·rw[show decide ((s.length:Int)=10)=true from decide_eq_true (by omega),cond_true,decide_eq_true h1]
   by_cases h2:digR s 0=10
   ·rw[show decide ((digR s 0:Int)=10)=true from decide_eq_true (by omega),cond_true,decide_eq_true h2]
    match s,h1 with
    |c::r,h1=>
     have e3:decide ((c.toNat:Int)=48)=decide (c=48):=co (k:=48) (by omega)
     rw[show bo (c::r) 0=some c from rfl,aa,e3]
     show _=some (mv (if k=0∧(true&&(true&&(!decide (c=48)&& !(Op.bytesLess (c::r) cJ||decide (c::r=cJ)))))=true then 28 else p8 k (c::r)) μ)
     simp only[h0,true_and,Bool.true_and]
     have e4:([50,49,52,55,52,56,51,54,52,55]:List UInt8)=cJ:=rfl
     rw[e4]
     cases decide (c=48)<;>cases (Op.bytesLess (c::r) cJ||decide (c::r=cJ))<;>rfl
   ·rw[show decide ((digR s 0:Int)=10)=false from decide_eq_false (by omega),cond_false,decide_eq_false h2]
    simp
  ·rw[show decide ((s.length:Int)=10)=false from decide_eq_false (by omega),cond_false,decide_eq_false h1]
   simp
 ·rw[decide_eq_false h0,cond_false,if_neg (by simp[h0])]
theorem QY {k:Int}(hs:s.length≤200000):(ev E).call 13 [LV.int .i64 k,LV.str s] μ=some (.ret (LV.int .i64 (wc k s)) μ):=by
 refine aO ?_
 rw[Sn,sA]
 simp only[ad,aq,aa,am,ao,aj,ae,ak,az,cond_true,cond_false,Bool.not_true,Bool.not_false,av,au,ar]
 rw[O5 hs,aa,Gd]
 unfold wc
 cases decide (0≤k)<;>cases decide (k≤6)<;>cases decide (k=3)<;>cases decide (k=4)<;>rfl
def Hr (t:Tok):Int:=
 if !(decide (0≤t.kind)&&decide (t.kind≤2))then 15
 else if t.kind=1 then wc t.type t.text
 else if t.type=0 then(if t.kind=0 then(if lC t.text then 0 else 4)else(if bT.contains t.text||bm.contains t.text then 0 else 7))
 else 3
theorem QZ {t:Tok}(hs:t.text.length≤200000):(ev E).call 15 [LV.cv t.cv] μ=some (.ret (LV.int .i64 (Hr t)) μ):=by
 refine aO ?_
 obtain⟨a,b,s⟩:=t
 show aH E (ev E) 15 [LV.cv (CV.agg [CV.int .i64 a,CV.int .i64 b,CV.str s])] μ=_
 rw[So,sA]
 simp only[ad,aq,aa,am,ao,aj,ae,ak,az,cond_true,cond_false,Bool.not_true,Bool.not_false,av,au,ar]
 rw[QY hs,Q9 hs,FZ]
 simp only[ad,aq,aa,am,ao,aj,ae,ak,az,cond_true,cond_false,Bool.not_true,Bool.not_false,av,au,ar]
 rw[Nu (by decide)]
 simp only[ad,aq,aa,am,ao,aj,ae,ak,az,cond_true,cond_false,Bool.not_true,Bool.not_false,av,au,ar]
 rw[F0]
 simp only[ad,aq,aa,am,ao,aj,ae,ak,az,cond_true,cond_false,Bool.not_true,Bool.not_false,av,au,ar]
 rw[Nu (by decide)]
 simp only[ad,aq,aa,am,ao,aj,ae,ak,az,cond_true,cond_false,Bool.not_true,Bool.not_false,av,au,ar]
 unfold Hr
 simp only
 by_cases h1:a=1
 ·subst h1;rfl
 ·rw[decide_eq_false h1,cond_false,if_neg h1]
  cases decide (0≤a)<;>cases decide (a≤2)<;>try rfl
  rw[Bool.and_self,Bool.not_true,cond_false,if_neg (by simp)]
  by_cases hb:b=0
  ·rw[decide_eq_true hb,if_pos hb,Bool.not_true,cond_false]
   by_cases ha:a=0
   ·rw[decide_eq_true ha,if_pos ha,cond_true]
    cases lC s<;>rfl
   ·rw[decide_eq_false ha,if_neg ha,cond_false]
    cases bT.contains s<;>cases bm.contains s<;>rfl
  ·rw[decide_eq_false hb,if_neg hb];rfl
end
end Go.Abs
set_option linter.unusedVariables false
set_option linter.unusedSimpArgs false
namespace Go.Abs
open Go Go.Proofs
theorem jj {n:Nat}(h:n<10):Lib.decDigits n=[UInt8.ofNat (48+n)]:=Lib.decDigits_one h
theorem ss {n:Nat}(h: ¬n<10):Lib.decDigits n=Lib.decDigits (n / 10)++[UInt8.ofNat (48+n % 10)]:=by
 rw[Lib.decDigits,dif_neg h]
theorem nq {d:Nat}(h:d<10):ah (UInt8.ofNat (48+d))=true∧(UInt8.ofNat (48+d)).toNat=48+d:=by
 have:(UInt8.ofNat (48+d)).toNat=48+d:=UInt8.toNat_ofNat_of_lt' (by show 48+d<256;omega)
 exact⟨cm.2 (by omega),this⟩
theorem gq: ∀(n:Nat),∀b∈Lib.decDigits n,ah b=true:=by
 intro n
 induction n using Nat.strongRecOn with
 |_ n ih=>
  intro b hb
  by_cases h:n<10
  ·rw[jj h]at hb
   rw[List.mem_singleton.1 hb]
   exact(nq h).1
  ·rw[ss h]at hb
   rcases List.mem_append.1 hb with h1|h1
   ·exact ih (n / 10) (by omega) b h1
   ·rw[List.mem_singleton.1 h1]
    exact(nq (by omega)).1
theorem iE: ∀(n:Nat),valD 0 (Lib.decDigits n)=n:=by
 intro n
 induction n using Nat.strongRecOn with
 |_ n ih=>
  by_cases h:n<10
  ·rw[jj h,dp,ib,(nq h).2];omega
  ·rw[ss h,BF,ih (n / 10) (by omega),(nq (d:=n % 10) (by omega)).2];omega
theorem uC: ∀(n:Nat),gF (Lib.decDigits n):=by
 intro n
 induction n using Nat.strongRecOn with
 |_ n ih=>
  by_cases h:n<10
  ·rw[jj h];exact Or.inl rfl
  ·rw[ss h]
   rcases ih (n / 10) (by omega)with h1|⟨c,r,h1,h2⟩
   ·match h3:Lib.decDigits (n / 10),h1 with
    |[c],_=>
     refine Or.inr ⟨c,_,rfl,fun e=> ?_⟩
     have:=iE (n / 10)
     rw[h3,e]at this
     have h48:valD 0 [(48:UInt8)]=0:=rfl
     omega
   ·rw[h1];exact Or.inr ⟨c,_,rfl,h2⟩
theorem fe: ∀(k n:Nat),1≤k→n<10^k→(Lib.decDigits n).length≤k
 |0,n,h,_=>absurd h (by omega)
 |1,n,_,h=>by rw[jj (by simpa using h)];exact Nat.le_refl _
 |k+2,n,_,h=>by
  by_cases h9:n<10
  ·rw[jj h9];simp
  ·rw[ss h9,List.length_append]
   have:=fe (k+1) (n / 10) (by omega) (by rw[Nat.pow_succ]at h;exact(Nat.div_lt_iff_lt_mul (by omega)).2 h)
   simp only[List.length_cons,List.length_nil]
   omega
def mG (t:Tok):Prop:=t.kind=1→t.text.length≤122∧(t.type=0→ ∃n:Nat,n≤2147483647∧t.text=Lib.decDigits n)∧(t.type=6→ ∃u:List UInt8,u.length≤60∧t.text=aR u)
def pJ {β:Type}:Except Int (Tok×β)→Prop
 | .ok q=>mG q.1
 | .error _=>True
section
variable {s:List UInt8}{fx:Bool}{n:Nat}
theorem Ec {q:Except Int (Tok×Nat)}(h:pJ q):pJ (noK q):=by cases q<;>exact h
theorem vn {t:List UInt8}(h:t.length≤60):mG ⟨1,6,aR t⟩:=by
 intro _
 have:=mf t
 refine⟨?_,fun e=>absurd e (by simp),fun _=>⟨t,h,rfl⟩⟩
 show (aR t).length≤122
 unfold aR
 simp only[List.length_append,List.length_cons,List.length_nil]
 omega
theorem C9:pJ (cr s n):=by
 unfold cr
 split
 ·trivial
 ·split
  ·trivial
  ·exact vn (by omega)
theorem Ku {whole part digits:List UInt8}{letter:UInt8}{ok:Bool}{e:Nat}:pJ (real whole part digits letter ok e):=by
 unfold real
 split
 ·trivial
 ·rename_i hl
  unfold jr at hl
  simp only[Bool.or_eq_true,decide_eq_true_eq,not_or]at hl
  have h1:=ir (dn whole)
  have h2:=ir (bQ part)
  have h3:(ep digits ok).length≤21:=by
   unfold ep
   split
   ·exact Lib.itoa_length_le _ (iK digits).1 (iK digits).2
   ·simp
  have h4:(dY whole part).length≤33:=by
   unfold dY
   simp only[List.length_append,List.length_cons,List.length_nil]
   omega
  unfold c8
  show mG _
  split
  ·exact fun _=>⟨by simp only[List.length_append,List.length_cons,List.length_nil];omega,fun e=>absurd e (by simp),fun e=>absurd e (by simp)⟩
  ·split
   ·exact fun _=>⟨by simp only;omega,fun e=>absurd e (by simp),fun e=>absurd e (by simp)⟩
   ·exact fun _=>⟨by simp only[List.length_append,List.length_cons,List.length_nil];omega,fun e=>absurd e (by simp),fun e=>absurd e (by simp)⟩
theorem Ax {d:List UInt8}(hd: ∀b∈d,ah b=true){t:Tok}(h:bU d= .ok t):mG t:=by
 unfold bU at h
 split at h
 ·cases h
 ·rename_i hh
  simp only[not_or]at hh
  injection h with h
  subst h
  obtain⟨h1,h2,h3⟩:=hh
  have h0:d≠[]:=fun e=>h2 (by rw[e];rfl)
  have hN:cg d=(valD 0 d:Nat):=by unfold cg;rw[d6 hd h0 (by omega)]
  rw[hN]at h3 ⊢
  intro _
  have hT:Lib.itoa ((valD 0 d:Nat):Int)=Lib.decDigits (valD 0 d):=gR
  have hs:=fe 10 (valD 0 d) (by omega) (by omega)
  exact⟨by show (Lib.itoa ((valD 0 d:Nat):Int)).length≤122;rw[hT];omega,fun _=>⟨valD 0 d,by omega,hT⟩,fun e=>absurd e (by simp)⟩
theorem CY:pJ (bO fx s n):=by
 unfold bO
 simp only
 split
 ·split
  ·rename_i t ht
   exact Ax (fun b hb=>g7 b hb) ht
  ·trivial
 ·exact Ku
theorem jn {t:Tok}(h:t.kind≠1):mG t:=fun e=>absurd e h
theorem OZ:pJ (dl fx s n):=by
 unfold dl
 simp only
 split
 ·exact jn (by show (2:Int)≠1;decide)
 ·split
  ·exact jn (by show (2:Int)≠1;decide)
  ·split
   ·exact jn (by show (2:Int)≠1;decide)
   ·split
    ·exact jn (by show (2:Int)≠1;decide)
    ·trivial
theorem MW:eW.length=6∧ee.length=7:=by decide
theorem K1 {w:List UInt8}:mG (cz w):=by
 unfold cz
 split
 ·rename_i h
  have:=MW
  refine fun _=>⟨?_,fun e=>absurd e (by simp),fun e=>absurd e (by simp)⟩
  rcases h with h|h<;>(simp only[h];omega)
 ·exact jn (by simp)
theorem HC {out:List Tok}:pJ (de fx s out n):=by
 unfold de
 split
 ·rename_i h
  simp only[Bool.and_eq_true,decide_eq_true_eq]at h
  obtain⟨_,h1,h2,h3,h4⟩:=h
  unfold nQ
  split
  ·trivial
  ·refine vn ?_
   rw[List.length_take]
   omega
 ·unfold bI
  split
  ·split
   ·trivial
   ·exact jn (by simp)
  ·split
   ·exact Ec CY
   ·split
    ·split
     ·exact K1
     ·trivial
    ·split
     ·have:=C9 (s:=s) (n:=n)
      unfold cS
      cases hq:cr s n with
      |ok q=>rw[hq]at this;exact this
      |error e=>trivial
     ·exact Ec OZ
theorem wq: ∀(k n:Nat) (out:List Tok) (kept:List Nat),(∀t∈out,mG t)→ ∀t∈(bA fx s k n out kept).2.1,mG t:=by
 intro k
 induction k with
 |zero=>intro n out kept h;exact h
 |succ k ih=>
  intro n out kept h
  unfold bA
  split
  ·exact h
  ·have hf:=HC (fx:=fx) (s:=s) (n:=n+aF (s.drop n)) (out:=out)
   split
   ·exact h
   ·rename_i q hq
    rw[hq]at hf
    refine ih _ _ _ fun t ht=> ?_
    rcases List.mem_append.1 ht with h1|h1
    ·exact h t h1
    ·rw[List.mem_singleton.1 h1];exact hf
theorem yl {t:Tok}(h:t∈ct fx s):mG t:=by
 unfold ct at h
 split at h
 ·unfold bc at h
  split at h
  ·simp only at h
   split at h
   ·split at h<;>exact wq _ _ _ _ (fun _ h=>absurd h (by simp)) _ h
   ·exact wq _ _ _ _ (fun _ h=>absurd h (by simp)) _ h
  ·simp at h
 ·simp at h
theorem ge {t:Tok}:gl s=some t↔(bc false s).e=0∧ct false s=[t]:=by
 unfold gl ct
 constructor
 ·intro h
  split at h
  ·rename_i h1
   obtain⟨_,hl,_⟩:=oI h1.1
   refine⟨h1.1,?_⟩
   rw[if_pos h1.1]
   rw[h1.2]at hl
   obtain⟨x,hx⟩:=List.length_eq_one_iff.1 hl.symm
   rw[hx]at h ⊢
   simp at h
   rw[h]
  ·cases h
 ·rintro⟨h1,h2⟩
  obtain⟨_,hl,_⟩:=oI h1
  rw[if_pos h1]at h2
  rw[h2]at hl
  rw[if_pos ⟨h1,hl⟩,h2]
  rfl
theorem Kw {k:Int}:wb k s=if gl s=some ⟨1,k,s⟩then 0 else 3:=by
 unfold wb
 by_cases h:gl s=some ⟨1,k,s⟩
 ·rw[if_pos h,if_pos (ge.1 h)]
 ·rw[if_neg h,if_neg (fun e=>h (ge.2 e))]
theorem Bi {k:Int}:p8 k s=if gl s=some ⟨1,k,s⟩then 0 else 3:=by
 unfold p8
 split
 ·rename_i h
  rw[if_neg ?_]
  intro e
  obtain⟨h1,h2⟩:=ge.1 e
  have hf:mG ⟨1,k,s⟩:=yl (s:=s) (fx:=false) (by rw[h2];exact List.mem_singleton.2 rfl)
  rcases h with h|h
  ·have:=(hf rfl).1
   simp only at this
   omega
  ·exact h (oI h1).1
 ·exact Kw
theorem jl:eo s=true↔s.length≤10∧(∀b∈s,ah b=true)∧gF s:=by
 unfold eo
 rw[Bool.and_eq_true,Bool.and_eq_true,decide_eq_true_eq,List.all_eq_true,and_assoc]
 refine and_congr_right fun _=>and_congr_right fun hd=> ?_
 match s with
 |[]=>
  constructor
  ·intro h;cases h
  ·rintro(h|⟨c,r,h,_⟩)<;>simp at h
 |c::r=>
  show (!decide (c=48)||decide (c::r=[48]))=true↔_
  rw[Bool.or_eq_true,Bool.not_eq_true',decide_eq_false_iff_not,decide_eq_true_eq]
  constructor
  ·rintro(h|h)
   ·exact Or.inr ⟨c,r,rfl,h⟩
   ·rw[h];exact Or.inl rfl
  ·rintro(h|⟨c',r',h,h2⟩)
   ·simp only[List.length_cons]at h
    have:r=[]:=List.eq_nil_of_length_eq_zero (by omega)
    subst this
    by_cases hc:c=48
    ·subst hc;exact Or.inr rfl
    ·exact Or.inl hc
   ·injection h with h3 h4
    subst h3
    exact Or.inl h2
theorem Lv (hs:digR s 0=s.length): ∀b∈s,ah b=true:=by
 unfold digR at hs
 rw[List.drop_zero]at hs
 have h1:(s.takeWhile ah).length=s.length:=hs
 have h2:s.takeWhile ah=s:=(List.takeWhile_prefix ah).eq_of_length h1
 intro b hb
 rw[←h2]at hb
 exact dy _ b hb
theorem fK {p:UInt8→Bool}: ∀(l:List UInt8),(∀b∈l,p b=true)→l.takeWhile p=l
 |[],_=>rfl
 |c::r,h=>by rw[List.takeWhile_cons,h c (by simp),if_pos rfl,fK r fun b hb=>h b (List.mem_cons_of_mem _ hb)]
theorem uQ:uP s=true↔eo s=true∧2147483647<valD 0 s:=by
 constructor
 ·intro h
  unfold uP at h
  simp only[Bool.and_eq_true,decide_eq_true_eq,Bool.not_eq_true',Bool.or_eq_false_iff,decide_eq_false_iff_not]at h
  obtain⟨h1,h2,h3,h4,h5⟩:=h
  have hd:=Lv (s:=s) (by rw[h2,h1])
  refine⟨jl.2 ⟨by omega,hd,?_⟩,?_⟩
  ·match s,h1 with
   |c::r,_=>exact Or.inr ⟨c,r,rfl,by simpa[mJ]using h3⟩
  ·rcases pQ s cJ (by rw[h1];rfl)with h|h|h
   ·rw[h]at h4;cases h4
   ·exact absurd h h5
   ·have:=mO cJ s (by rw[h1];rfl) pU hd h
    rw[kl]at this
    exact this
 ·rintro⟨h1,h2⟩
  obtain⟨a,b,c⟩:=jl.1 h1
  have h10:s.length=10:=by
   have hb:=(dH s 0 b).2
   by_cases h:s.length≤9
   ·have:10^s.length≤10^9:=Nat.pow_le_pow_right (by omega) h
    omega
   ·omega
  have e1:digR s 0=10:=by unfold digR;rw[List.drop_zero,fK s b,h10]
  have e2:mJ (fun c=> !decide (c=48)) s=true:=by
   rcases c with c|⟨x,r,rfl,hx⟩
   ·omega
   ·simpa[mJ]using hx
  have e3:Op.bytesLess s cJ=false:=by
   cases h:Op.bytesLess s cJ with
   |false=>rfl
   |true=>
    have:=mO s cJ (by rw[h10];rfl) b pU h
    rw[kl]at this
    omega
  have e4:s≠cJ:=fun e=>by rw[e,kl]at h2;omega
  unfold uP
  rw[decide_eq_true h10,decide_eq_true e1,e2,e3,decide_eq_false e4]
  rfl
theorem rS {t:Tok}{c:UInt8}{kept:List Nat}(hT:bp s=0)(h0:s[0]? =some c)(hc:c≠32)(h:bI false s 0 c= .ok (t,s.length,kept)):gl s=some t:=by
 obtain⟨r,hs⟩: ∃r,s=c::r:=by
  cases s with
  |nil=>cases h0
  |cons x r=>simp at h0;exact⟨r,by rw[h0]⟩
 have hb0:aF (s.drop 0)=0:=by
  rw[List.drop_zero,hs]
  unfold aF
  simp[hc]
 have hg:(s[0]?).getD 0=c:=by rw[h0];rfl
 have htok:de false s [] 0= .ok (t,s.length,kept):=by rw[l3,hg,h]
 have hlen:s.length≠0:=by rw[hs];simp
 have hsp:bA false s (s.length+1) 0 [] []=(none,[t],kept):=by
  unfold bA
  rw[hb0,Nat.add_zero,if_neg (by omega),htok]
  simp only[List.nil_append]
  obtain⟨k,hk⟩: ∃k,s.length=k+1:=⟨s.length-1,by omega⟩
  rw[show bA false s s.length s.length [t] kept=bA false s (k+1) s.length [t] kept from by rw[←hk]]
  unfold bA
  rw[if_pos (by omega)]
 have hsc:bc false s=⟨[t],kept,1,0⟩:=by
  unfold bc
  rw[if_pos hT,hsp]
  rfl
 refine ge.2 ⟨by rw[hsc],?_⟩
 unfold ct
 rw[hsc]
 rfl
theorem B8 (h1:eo s=true)(h2:valD 0 s≤2147483647):gl s=some ⟨1,0,s⟩:=by
 obtain⟨a,b,c⟩:=jl.1 h1
 have h0:s≠[]:=by
  rintro rfl
  rcases c with c|⟨x,r,h,_⟩
  ·simp at c
  ·cases h
 have hT:bp s=0:=by
  unfold bp cZ
  rw[if_neg (by omega),if_pos]
  rw[Bool.not_eq_true',List.any_eq_false]
  intro x hx
  have:=cm.1 (b x hx)
  simp only[Bool.or_eq_true,decide_eq_true_eq,not_or]
  omega
 have hW:cj false ah s 0=s:=by rw[cX cQ,List.drop_zero,fK s b]
 have hE:runE false ah s 0=s.length:=by rw[cY cQ,List.drop_zero,fK s b,Nat.zero_add]
 have hA:atC false s s.length=0:=by rw[b7,List.getElem?_eq_none (Nat.le_refl _)];rfl
 have hD:bS false s 0=false:=by unfold bS;rw[hE,hA];rfl
 have hN:numEnd false s 0=s.length:=by unfold numEnd;rw[hD];exact hE
 have hX:(aL false s s.length).2.2.2=false:=by
  unfold aL
  have:bN false s s.length=0:=by unfold bN;rw[hA];rfl
  rw[this]
  rfl
 have hI:bU s= .ok ⟨1,0,s⟩:=by
  have ha:=d6 b h0 a
  have hv:cg s=(valD 0 s:Nat):=by unfold cg;rw[ha]
  have hk:iT s=true:=by unfold iT;rw[ha]
  unfold bU
  rw[if_neg (by rw[hk,hv];simp;omega),hv,gR,wS s.length s rfl b c]
 have hnum:bO false s 0= .ok (⟨1,0,s⟩,s.length):=by
  unfold bO
  simp only[hN,hX,hD]
  rw[show bx false s 0=s from hW,hI]
  rfl
 obtain⟨x,r,hs⟩: ∃x r,s=x::r:=by
  cases s with
  |nil=>exact absurd rfl h0
  |cons x r=>exact⟨x,r,rfl⟩
 have hx:ah x=true:=b x (by rw[hs];simp)
 have hxl:aU x=false:=by
  have:=cm.1 hx
  unfold aU
  rw[Bool.or_eq_false_iff,Bool.and_eq_false_iff,Bool.and_eq_false_iff,decide_eq_false_iff_not,decide_eq_false_iff_not,decide_eq_false_iff_not]
  omega
 refine rS (c:=x) (kept:=[]) hT (by rw[hs];rfl) (fun e=>by rw[e]at hx;exact absurd hx (by decide)) ?_
 unfold bI
 rw[hxl,hx,hnum]
 rfl
theorem vA:gl s=some ⟨1,0,s⟩↔eo s=true∧valD 0 s≤2147483647:=by
 constructor
 ·intro h
  obtain⟨h1,h2⟩:=ge.1 h
  have hf:mG ⟨1,0,s⟩:=yl (s:=s) (fx:=false) (by rw[h2];exact List.mem_singleton.2 rfl)
  obtain⟨m,hm,ht⟩:=(hf rfl).2.1 rfl
  simp only at ht
  have hs:=fe 10 m (by omega) (by omega)
  refine⟨jl.2 ⟨by rw[ht];exact hs,by rw[ht];exact gq m,by rw[ht];exact uC m⟩,by rw[ht,iE];exact hm⟩
 ·rintro⟨h1,h2⟩
  exact B8 h1 h2
theorem Lt (k:Int):gi k s=wc k s:=by
 unfold gi wc
 by_cases h0:k=0
 ·subst h0
  rw[if_pos rfl,Bi]
  simp only[true_and]
  rw[show (!(decide ((0:Int)≤0)&&decide ((0:Int)≤6))||(decide ((0:Int)=3)||decide ((0:Int)=4)))=false from rfl,if_neg (by simp: ¬(false=true))]
  by_cases hf:eo s=true
  ·rw[if_pos hf]
   by_cases hv:2147483647<valD 0 s
   ·rw[if_pos hv,if_pos (uQ.2 ⟨hf,hv⟩)]
   ·rw[if_neg hv,if_neg (fun e=>hv (uQ.1 e).2),if_pos (vA.2 ⟨hf,by omega⟩)]
  ·rw[if_neg hf,if_neg (fun e=>hf (uQ.1 e).1),if_neg (fun e=>hf (vA.1 e).1)]
 ·rw[if_neg h0]
  simp only[h0,false_and,if_false]
  by_cases h:k=1∨k=2∨k=5∨k=6
  ·have hk:(!(decide (0≤k)&&decide (k≤6))||(decide (k=3)||decide (k=4)))=false:=by rcases h with rfl|rfl|rfl|rfl<;>decide
   rw[if_pos h,hk,if_neg (by simp: ¬(false=true)),Bi]
  ·rw[if_neg h,if_pos]
   simp only[Bool.or_eq_true,Bool.not_eq_true',Bool.and_eq_false_iff,decide_eq_false_iff_not,decide_eq_true_eq]
   omega
theorem MV (t:Tok):lh t=Hr t:=by
 unfold lh Hr
 by_cases h1:t.kind=1
 ·rw[if_pos h1,if_neg (by rw[h1];decide),if_pos h1,Lt]
 ·rw[if_neg h1,if_neg h1]
  by_cases h:t.kind=0∨t.kind=2
  ·have hk:(!(decide (0≤t.kind)&&decide (t.kind≤2)))=false:=by rcases h with h|h<;>(rw[h];decide)
   rw[if_pos h,hk,if_neg (by simp: ¬(false=true))]
  ·rw[if_neg h,if_pos]
   simp only[Bool.not_eq_true',Bool.and_eq_false_iff,decide_eq_false_iff_not]
   omega
end
end Go.Abs
set_option linter.unusedVariables false
set_option linter.unusedSimpArgs false
set_option maxRecDepth 100000
namespace Go.Abs
open Go Go.Proofs
end Go.Abs
set_option linter.unusedVariables false
set_option linter.unusedSimpArgs false
set_option maxRecDepth 100000
namespace Go.Abs
open Go Go.Proofs
theorem vz: ∀(u:List UInt8),(∀b∈u,b≠39)→Lib.index u [39,39]= -1
 |[],_=>rfl
 |c::r,h=>by
  have hp:(([39,39]:List UInt8).isPrefixOf (c::r))=false:=by
   have:(39 == c)=false:=by simpa using fun e:39=c=>h c (by simp) e.symm
   simp[List.isPrefixOf,this]
  have:=vz r fun b hb=>h b (List.mem_cons_of_mem _ hb)
  simp only[Lib.index,hp,this]
  rfl
theorem rm: ∀(a l:List UInt8),(∀b∈a,b≠39)→Lib.index (a++39::39::l) [39,39]=(a.length:Int)
 |[],l,_=>by simp[Lib.index,List.isPrefixOf]
 |c::r,l,h=>by
  have hp:(([39,39]:List UInt8).isPrefixOf (c::(r++39::39::l)))=false:=by
   have:(39 == c)=false:=by simpa using fun e:39=c=>h c (by simp) e.symm
   simp[List.isPrefixOf,this]
  have h1:=rm r l fun b hb=>h b (List.mem_cons_of_mem _ hb)
  have hne:(Lib.index (r++39::39::l) [39,39] == -1)=false:=by rw[h1];simp;try omega
  rw[List.cons_append]
  simp only[Lib.index,hp,hne,h1]
  simp
theorem ER (l:List UInt8):(∀b∈l,b≠39)∨ ∃a r,l=a++39::r∧ ∀b∈a,b≠39:=by
 rcases kD l 39 with⟨_,h⟩|⟨a,r,h1,h2,_⟩
 ·exact Or.inl h
 ·exact Or.inr ⟨a,r,h1,h2⟩
theorem rM: ∀(k:Nat) (u:List UInt8),Lib.count (dbl u) [39,39]≤k→Lib.replaceK [39,39] [39] k (dbl u)=u
 |0,u,h=>by
  rcases ER u with h2|⟨a,r,h1,h2⟩
  ·have:=ji u [] h2
   simp only[List.append_nil,dbl]at this
   rw[this];rfl
  ·exfalso
   have hd:dbl u=a++39::39::dbl r:=by rw[h1,ji a _ h2,dbl,if_pos rfl]
   have:=Lib.count_hit (sub:=[39,39]) (by simp) (rm a (dbl r) h2)
   rw[hd]at h
   omega
 |k+1,u,h=>by
  rcases ER u with h2|⟨a,r,h1,h2⟩
  ·have:=ji u [] h2
   simp only[List.append_nil,dbl]at this
   rw[this,Lib.replaceK,vz u h2];rfl
  ·have hd:dbl u=a++39::39::dbl r:=by rw[h1,ji a _ h2,dbl,if_pos rfl]
   have hi:=rm a (dbl r) h2
   rw[←hd]at hi
   have hc:=Lib.count_hit (sub:=[39,39]) (by simp) hi
   rw[Lib.replaceK_hit _ _ _ _ _ hi]
   have hdr:(dbl u).drop (a.length+([39,39]:List UInt8).length)=dbl r:=by
    rw[hd,←List.drop_drop,List.drop_left' rfl];rfl
   have ht:(dbl u).take a.length=a:=by rw[hd,List.take_left' rfl]
   rw[hdr]at hc
   rw[hdr,ht,rM k r (by omega),h1]
   simp
theorem EU (u:List UInt8):Lib.replaceAll (dbl u) [39,39] [39]=u:=by
 unfold Lib.replaceAll Lib.replace Lib.replaceNum
 rw[if_neg (by decide),if_pos (Or.inl (by decide))]
 exact rM _ _ (Nat.le_refl _)
theorem nz: ∀(u:List UInt8),bE 39 (dbl u++[39])=some (u,(dbl u).length+1)
 |[]=>ei (fun d t h=>by cases h)
 |c::r=>by
  by_cases hc:c=39
  ·subst hc
   rw[dbl,if_pos rfl,List.cons_append,List.cons_append,eM,nz r]
   simp only[Option.map_some,List.length_cons]
  ·rw[dbl,if_neg hc,List.cons_append,fv hc,nz r]
   simp only[Option.map_some,List.length_cons]
theorem wQ: ∀(u:List UInt8),∀b∈dbl u,b∈u∨b=39
 |[],b,h=>by simp[dbl]at h
 |c::r,b,h=>by
  unfold dbl at h
  split at h
  ·rcases List.mem_cons.1 h with h|h
   ·exact Or.inr h
   ·rcases List.mem_cons.1 h with h|h
    ·exact Or.inr h
    ·rcases wQ r b h with h|h
     ·exact Or.inl (List.mem_cons_of_mem _ h)
     ·exact Or.inr h
  ·rcases List.mem_cons.1 h with h|h
   ·exact Or.inl (by rw[h];simp)
   ·rcases wQ r b h with h|h
    ·exact Or.inl (List.mem_cons_of_mem _ h)
    ·exact Or.inr h
theorem kx {s:List UInt8}:cZ s=true↔ ∀b∈s,32≤b.toNat∧b.toNat≤126:=by
 unfold cZ
 rw[Bool.not_eq_true',List.any_eq_false]
 constructor
 ·intro h b hb
  have:=h b hb
  simp only[Bool.or_eq_true,decide_eq_true_eq,not_or]at this
  omega
 ·intro h b hb
  have:=h b hb
  simp only[Bool.or_eq_true,decide_eq_true_eq,not_or]
  omega
theorem vo {u:List UInt8}(h:cZ u=true):cZ (aR u)=true:=by
 rw[kx]at h ⊢
 intro b hb
 unfold aR at hb
 simp only[List.mem_append,List.mem_singleton]at hb
 rcases hb with(h1|h1)|h1
 ·subst h1;decide
 ·rcases wQ u b h1 with h2|h2
  ·exact h b h2
  ·subst h2;decide
 ·subst h1;decide
theorem jB (u:List UInt8):(aR u).length=(dbl u).length+2:=by
 unfold aR
 simp only[List.length_append,List.length_cons,List.length_nil]
 omega
theorem zU {u:List UInt8}(h:cZ u=true)(hl:u.length≤60):gl (aR u)=some ⟨1,6,aR u⟩:=by
 have hd:=mf u
 have hlen:=jB u
 have hT:bp (aR u)=0:=by unfold bp;rw[if_neg (by omega),if_pos (vo h)]
 refine rS (c:=39) (kept:=List.range' 0 ((aR u).length-0)) hT rfl (by decide) ?_
 have hq:cr (aR u) 0= .ok (⟨1,6,aR u⟩,(aR u).length):=by
  unfold cr
  have e1:((aR u)[0]?).getD 0=39:=rfl
  have e2:(aR u).drop (0+1)=dbl u++[39]:=rfl
  rw[e1,e2,nz]
  simp only
  rw[if_neg (by omega),hlen]
  congr 2
  omega
 show cS (aR u) 0=_
 unfold cS
 rw[hq]
theorem BY {u:List UInt8}(h:cZ u=true)(hl:u.length≤60):gi 6 (aR u)=0:=by
 unfold gi
 rw[if_neg (by decide),if_pos (by decide),if_pos (zU h hl)]
section
variable {μ:Mu}{s:List UInt8}
def mid (s:List UInt8):List UInt8:=(s.drop 1).take (s.length-2)
end
end Go.Abs
set_option linter.unusedVariables false
set_option linter.unusedSimpArgs false
namespace Go.Abs
open Go Go.Proofs
def bj (ty p:Int):List UInt8:=if ty=2 then [68]++Lib.itoa p else if p≠0 then [69]++Lib.itoa p else []
def ba (W P:List UInt8)(ty p:Int):List UInt8:=W++(46::(P++bj ty p))
structure RealOK (W P:List UInt8) (ty p:Int):Prop where
 wd: ∀b∈W,ah b=true
 wl:gF W
 pd: ∀b∈P,ah b=true
 pl:gF P.reverse
 cnt:countR W+countR P≤30
 p1: -999≤p
 p2:p≤999
 ty:ty=1∨ty=2
theorem dR {l:List UInt8}(h:gF l):l≠[]:=by
 rintro rfl
 rcases h with h|⟨c,r,h,_⟩
 ·simp at h
 ·cases h
theorem Bz {l:List UInt8}(h:gF l):bL l=l:=by
 match l,h with
 |[],h=>rfl
 |[c],h=>rfl
 |c::d::r,h=>
  rcases h with h|⟨x,y,h,hx⟩
  ·simp at h
  ·injection h with h _
   subst h
   unfold bL
   rw[if_neg hx]
theorem yd (l:List UInt8):bh l≠[]:=by
 unfold bh
 split
 ·simp
 ·assumption
theorem vU {l:List UInt8}(h: ∀b∈l,ah b=true): ∀b∈bh l,ah b=true:=by
 unfold bh
 split
 ·intro b hb;rw[List.mem_singleton.1 hb];rfl
 ·exact h
theorem xF {W:List UInt8}(h:gF W):before W=W:=by
 unfold before bh
 rw[if_neg (dR h),Bz h]
theorem zG {P:List UInt8}(h:gF P.reverse):after P=P:=by
 have h0:P≠[]:=fun e=>dR h (by rw[e];rfl)
 unfold after bh fM
 rw[if_neg h0,Bz h,List.reverse_reverse]
theorem MD {whole part:List UInt8}{kind exp:Int}{e:Nat}{q:Tok×Nat}(h:dN whole part kind exp e= .ok q)(hw: ∀b∈whole,ah b=true)(hp: ∀b∈part,ah b=true)(hk:kind=1∨kind=2)(h1: -999≤exp)(h2:exp≤999):
  ∃W P,RealOK W P kind exp∧q.1=⟨1,kind,ba W P kind exp⟩:=by
 unfold dN at h
 split at h
 ·cases h
 ·rename_i hc
  refine⟨before whole,after part,⟨fun b hb=>vU hw b (lx _ b hb),l5 _ (yd _),fun b hb=> ?_,?_,by omega,h1,h2,hk⟩,?_⟩
  ·unfold after fM at hb
   have:=lx _ b (List.mem_reverse.1 hb)
   exact vU hp b (List.mem_reverse.1 this)
  ·unfold after fM
   rw[List.reverse_reverse]
   exact l5 _ (by simpa using yd part)
  ·unfold ba bj
   split at h
   ·rename_i h3
    injection h with h
    rw[←h,if_pos h3]
    simp
   ·rename_i h3
    split at h
    ·rename_i h4
     injection h with h
     rw[←h,if_neg h3,if_pos h4]
     simp
    ·rename_i h4
     injection h with h
     rw[←h,if_neg h3,if_neg h4]
     simp
section
variable {s:List UInt8}{n:Nat}
def FQ (t:Tok):Prop:=t.kind=1→(t.type=1∨t.type=2)→ ∃W P p,RealOK W P t.type p∧t.text=ba W P t.type p
def FP {β:Type}:Except Int (Tok×β)→Prop
 | .ok q=>FQ q.1
 | .error _=>True
theorem Jp {t:Tok}(h:t.type≠1∧t.type≠2):FQ t:=fun _ e=>e.elim (fun e=>absurd e h.1) (fun e=>absurd e h.2)
theorem uY {k m:Nat}: ∀b∈(s.drop k).take (digR s k),ah b=true:=by
 have:=(j9 (s:=s) (n:=k)).1
 intro b hb
 rw[←this]at hb
 exact g7 b hb
theorem Jk (h:(aP false s n).length≤3): -999≤dK s n∧dK s n≤999:=by
 have hd: ∀b∈aP false s n,ah b=true:=g7
 have hb:=(dH _ 0 hd).2
 have:10^(aP false s n).length≤10^3:=Nat.pow_le_pow_right (by omega) h
 unfold dK
 split<;>omega
theorem yr {whole part:List UInt8}{point:Bool}{e:Nat}(hw: ∀b∈whole,ah b=true)(hp: ∀b∈part,ah b=true):FP (gu s whole part point e):=by
 unfold gu
 have key: ∀(kind exp:Int) (e':Nat),(kind=1∨kind=2)→ -999≤exp→exp≤999→FP (dN whole part kind exp e'):=by
  intro kind exp e' hk h1 h2
  cases h:dN whole part kind exp e' with
  |error x=>trivial
  |ok q=>
   obtain⟨W,P,ho,hq⟩:=MD h hw hp hk h1 h2
   show FQ q.1
   rw[hq]
   exact fun _ _=>⟨W,P,exp,ho,rfl⟩
 split
 ·split
  ·trivial
  ·rename_i h3
   have:=Jk (s:=s) (n:=e) (by omega)
   exact key _ _ _ (by split<;>simp) this.1 this.2
 ·split
  ·exact key 1 0 e (Or.inl rfl) (by omega) (by omega)
  ·unfold lF
   split
   ·trivial
   ·split
    ·trivial
    ·exact Jp (by simp)
theorem C0 {c:UInt8}(h:s[n]? =some c)(hc:ah c=true∨(c=46∧ah ((s[n+1]?).getD 0)=true)):FP (bO false s n):=by
 rw[←pZ h hc]
 unfold gv
 split
 ·exact yr (uY (m:=0)) (uY (m:=0))
 ·exact yr (uY (m:=0)) (by simp)
end
theorem nn {l:List UInt8}:l.length≤countR l+1:=by
 unfold countR
 split
 ·rename_i h;rw[h];exact Nat.le_refl _
 ·omega
theorem jI (p:Int):(∃m:Nat,p=(m:Int)∧Lib.itoa p=Lib.decDigits m)∨ ∃m:Nat,1≤m∧p= -(m:Int)∧Lib.itoa p=45::Lib.decDigits m:=by
 by_cases h:0≤p
 ·obtain⟨m,rfl⟩: ∃m:Nat,p=(m:Int):=⟨p.toNat,by omega⟩
  exact Or.inl ⟨m,rfl,gR⟩
 ·obtain⟨m,rfl⟩: ∃m:Nat,p= -(m:Int):=⟨(-p).toNat,by omega⟩
  exact Or.inr ⟨m,by omega,rfl,uG (by omega)⟩
theorem mE (m:Nat):Lib.decDigits m≠[]:=dR (uC m)
theorem AA (p:Int): ∀b∈Lib.itoa p,b=45∨ah b=true:=by
 intro b hb
 rcases jI p with⟨m,_,h⟩|⟨m,_,_,h⟩
 ·rw[h]at hb;exact Or.inr (gq m b hb)
 ·rw[h]at hb
  rcases List.mem_cons.1 hb with h|h
  ·exact Or.inl h
  ·exact Or.inr (gq m b h)
theorem yq (ty p:Int): ∀b∈bj ty p,b=68∨b=69∨b=45∨ah b=true:=by
 intro b hb
 unfold bj at hb
 split at hb
 ·rcases List.mem_append.1 hb with h|h
  ·exact Or.inl (List.mem_singleton.1 h)
  ·exact Or.inr (Or.inr (AA p b h))
 ·split at hb
  ·rcases List.mem_append.1 hb with h|h
   ·exact Or.inr (Or.inl (List.mem_singleton.1 h))
   ·exact Or.inr (Or.inr (AA p b h))
  ·simp at hb
theorem su {b:UInt8}(h:ah b=true):32≤b.toNat∧b.toNat≤126:=by
 have:=cm.1 h
 omega
theorem yj {W P:List UInt8}{ty p:Int}(h:RealOK W P ty p):bp (ba W P ty p)=0:=by
 have h1:=nn (l:=W)
 have h2:=nn (l:=P)
 have h3:=h.cnt
 have h4:(bj ty p).length≤22:=by
  have:=Lib.itoa_length_le p (by have:=h.p1;omega) (by have:=h.p2;omega)
  unfold bj
  split
  ·simp;omega
  ·split
   ·simp;omega
   ·simp
 unfold bp
 rw[if_neg (by unfold ba;simp only[List.length_append,List.length_cons];omega),if_pos]
 rw[kx]
 intro b hb
 unfold ba at hb
 rcases List.mem_append.1 hb with hb|hb
 ·exact su (h.wd b hb)
 ·rcases List.mem_cons.1 hb with hb|hb
  ·subst hb;decide
  ·rcases List.mem_append.1 hb with hb|hb
   ·exact su (h.pd b hb)
   ·rcases yq ty p b hb with hb|hb|hb|hb
    ·subst hb;decide
    ·subst hb;decide
    ·subst hb;decide
    ·exact su hb
theorem kw {W:List UInt8}{p:UInt8→Bool}: ∀(v r:List UInt8),(∀b∈v,p b=true)→(∀c t,r=c::t→p c=false)→(v++r).takeWhile p=v
 |[],[],_,_=>rfl
 |[],c::t,_,h=>by rw[List.nil_append,List.takeWhile_cons,h c t rfl];rfl
 |a::v,r,h1,h2=>by
  rw[List.cons_append,List.takeWhile_cons,h1 a (by simp),if_pos rfl,kw (W:=W) v r (fun b hb=>h1 b (List.mem_cons_of_mem _ hb)) h2]
section
variable {W P:List UInt8}{ty p:Int}
theorem Eb {s q:List UInt8}{L:UInt8}(hL:L=69∨L=68)(hs:s=q++L::Lib.itoa p)(h1: -999≤p)(h2:p≤999):
  (aL false s q.length).2.2.2=true∧(aP false s q.length).length≤3∧(aL false s q.length).1=L∧dK s q.length=p∧(aL false s q.length).2.2.1=s.length:=by
 have hlt:q.length<s.length:=by rw[hs];simp
 have hg0:atC false s q.length=L:=by rw[b7,hs,List.getElem?_append_right (Nat.le_refl _)];simp
 have hE:atE false s q.length=q.length+1:=by rw[cE,if_pos hlt]
 have hxL:bN false s q.length=L:=by unfold bN;rw[hg0];rcases hL with rfl|rfl<;>rfl
 have hdrop1:s.drop (q.length+1)=Lib.itoa p:=by rw[hs,←List.drop_drop,List.drop_left' rfl];rfl
 have hat1:atC false s (q.length+1)=((Lib.itoa p)[0]?).getD 0:=by
  rw[b7,←hdrop1,List.getElem?_drop]
 have hcond:bN false s q.length=69∨bN false s q.length=68:=by rw[hxL];exact hL
 have hx:aL false s q.length=(bN false s q.length,bX false s q.length++aP false s q.length,runE false ah s (expStart false s q.length),!decide (aP false s q.length=[])):=by
  unfold aL;rw[if_pos hcond]
 have key: ∀(m:Nat) (st:Nat),m≤999→expStart false s q.length=st→s.drop st=Lib.decDigits m→st+(Lib.decDigits m).length=s.length→
   aP false s q.length=Lib.decDigits m∧(Lib.decDigits m).length≤3∧runE false ah s (expStart false s q.length)=s.length:=by
  intro m st hm h3 h4 h5
  have h6:(s.drop st).takeWhile ah=Lib.decDigits m:=by rw[h4];exact fK _ (gq m)
  refine⟨?_,fe 3 m (by omega) (by omega),?_⟩
  ·unfold aP;rw[h3,cX cQ,h6]
  ·rw[h3,cY cQ,h6,h5]
 have hlen:s.length=q.length+1+(Lib.itoa p).length:=by rw[hs];simp;omega
 rcases jI p with⟨m,hm,hi⟩|⟨m,hm1,hm,hi⟩
 ·obtain⟨c,r,hcr⟩: ∃c r,Lib.decDigits m=c::r:=by
   cases h:Lib.decDigits m with
   |nil=>exact absurd h (mE m)
   |cons c r=>exact⟨c,r,rfl⟩
  have hcd:ah c=true:=gq m c (by rw[hcr];simp)
  have hc:atC false s (q.length+1)=c:=by rw[hat1,hi,hcr];rfl
  have hn45:c≠45:=by rintro rfl;exact absurd hcd (by decide)
  have hn43:c≠43:=by rintro rfl;exact absurd hcd (by decide)
  have hst:expStart false s q.length=q.length+1:=by unfold expStart;rw[hE,hc,if_neg (by simp[hn43,hn45])]
  obtain⟨k1,k2,k3⟩:=key m (q.length+1) (by omega) hst (by rw[hdrop1,hi]) (by rw[hlen,hi])
  rw[hx]
  refine⟨by simp[k1,mE m],by rw[k1];exact k2,hxL,?_,k3⟩
  unfold dK
  rw[hc,if_neg hn45,k1,iE,hm]
 ·have hc:atC false s (q.length+1)=45:=by rw[hat1,hi];rfl
  have hlt1:q.length+1<s.length:=by rw[hlen,hi];simp
  have hst:expStart false s q.length=q.length+2:=by
   unfold expStart
   rw[hE,hc,if_pos (Or.inr rfl),cE,if_pos hlt1]
  have hd2:s.drop (q.length+2)=Lib.decDigits m:=by
   rw[show q.length+2=(q.length+1)+1 from rfl,←List.drop_drop,hdrop1,hi];rfl
  obtain⟨k1,k2,k3⟩:=key m (q.length+2) (by omega) hst hd2 (by rw[hlen,hi];simp;omega)
  rw[hx]
  refine⟨by simp[k1,mE m],by rw[k1];exact k2,hxL,?_,k3⟩
  unfold dK
  rw[hc,if_pos rfl,k1,iE,hm]
theorem wt: ∀c t,bj ty p=c::t→ah c=false:=by
 intro c t h
 unfold bj at h
 split at h
 ·injection h with h _;subst h;decide
 ·split at h
  ·injection h with h _;subst h;decide
  ·cases h
theorem Db (h:RealOK W P ty p):gv (ba W P ty p) 0= .ok (⟨1,ty,ba W P ty p⟩,(ba W P ty p).length):=by
 have hd0:(ba W P ty p).drop 0=W++46::(P++bj ty p):=rfl
 have e1:digR (ba W P ty p) 0=W.length:=by
  unfold digR
  rw[hd0,iC (by decide) W _ h.wd]
 have e2:(ba W P ty p)[0+W.length]? =some 46:=by unfold ba;rw[Nat.zero_add,List.getElem?_append_right (Nat.le_refl _)];simp
 have hd1:(ba W P ty p).drop (0+W.length+1)=P++bj ty p:=by
  unfold ba
  rw[Nat.zero_add,←List.drop_drop,List.drop_left' rfl];rfl
 have e3:digR (ba W P ty p) (0+W.length+1)=P.length:=by
  unfold digR
  rw[hd1,kw (W:=W) P _ h.pd wt]
 have hP:P≠[]:=fun e=>dR h.pl (by rw[e];rfl)
 have e4:kP (ba W P ty p) 0=false:=by
  unfold kP
  rw[e1,Bool.and_eq_false_iff]
  right
  rw[List.any_eq_false]
  intro w hw hb
  have hb':bv (ba W P ty p) (0+W.length) w=true:=by simpa using hb
  obtain⟨_,_,h3,_⟩:=eZ (gx w hw) hb'
  have hlt:0+W.length<(ba W P ty p).length:=by unfold ba;simp
  obtain⟨c,r,hcr⟩: ∃c r,P=c::r:=by
   cases P with
   |nil=>exact absurd rfl hP
   |cons c r=>exact⟨c,r,rfl⟩
  have hcd:ah c=true:=h.pd c (by rw[hcr];simp)
  have hcl:aU c=false:=by
   have:=cm.1 hcd
   unfold aU
   rw[Bool.or_eq_false_iff,Bool.and_eq_false_iff,Bool.and_eq_false_iff,decide_eq_false_iff_not,decide_eq_false_iff_not,decide_eq_false_iff_not]
   omega
  have h6:((ba W P ty p).drop (0+W.length+1)).takeWhile aU=[]:=by
   rw[hd1,hcr,List.cons_append,List.takeWhile_cons,hcl];rfl
  rw[cE,if_pos hlt,cY jH,h6]at h3
  simp only[List.length_nil,Nat.add_zero]at h3
  have h5:(ba W P ty p)[0+W.length+1]? =some c:=by
   have:((ba W P ty p).drop (0+W.length+1))[0]? =some c:=by rw[hd1,hcr];rfl
   rw[List.getElem?_drop]at this
   exact this
  rw[b7,h5]at h3
  simp only[Option.getD_some]at h3
  subst h3
  exact absurd hcd (by decide)
 unfold gv
 rw[e4,e1,e2,e3,hd1]
 simp only[Bool.not_false,Bool.true_and,decide_true,if_true]
 rw[hd0,List.take_left' rfl,List.take_left' rfl,Nat.zero_add]
 have hq:ba W P ty p=(W++46::P)++bj ty p:=by unfold ba;simp
 have hql:(W++46::P).length=W.length+1+P.length:=by simp;omega
 have hr: ∀(kind exp:Int) (e:Nat),dN W P kind exp e=if kind=2 then .ok (⟨1,kind,W++[46]++P++[68]++Lib.itoa exp⟩,e)else if exp≠0 then .ok (⟨1,kind,W++[46]++P++[69]++Lib.itoa exp⟩,e)else .ok (⟨1,kind,W++[46]++P⟩,e):=by
  intro kind exp e
  unfold dN
  rw[xF h.wl,zG h.pl,if_neg (by have:=h.cnt;omega)]
 unfold gu
 by_cases ht:ty=2
 ·have hs:ba W P ty p=(W++46::P)++68::Lib.itoa p:=by rw[hq];unfold bj;rw[if_pos ht];rfl
  obtain⟨x1,x2,x3,x4,x5⟩:=Eb (p:=p) (Or.inr rfl) hs h.p1 h.p2
  rw[hql]at x1 x2 x3 x4 x5
  rw[x1,if_pos rfl,if_neg (by omega),x3,if_pos rfl,x4,x5,hr,if_pos rfl,ht,←ht]
  congr 3
  rw[hs];simp
 ·have ht1:ty=1:=h.ty.elim id (fun e=>absurd e ht)
  by_cases hp:p=0
  ·have hs:ba W P ty p=W++46::P:=by rw[hq];unfold bj;rw[if_neg ht,if_neg (by simp[hp])];simp
   have hA:atC false (ba W P ty p) (W.length+1+P.length)=0:=by
    rw[b7,List.getElem?_eq_none (by rw[hs,hql];omega)];rfl
   have hX:(aL false (ba W P ty p) (W.length+1+P.length)).2.2.2=false:=by
    unfold aL
    have:bN false (ba W P ty p) (W.length+1+P.length)=0:=by unfold bN;rw[hA];rfl
    rw[this]
    rfl
   rw[hX,if_neg (by simp),if_pos rfl,hr,if_neg (by decide),if_neg (by simp),hs,hql,ht1]
   simp
  ·have hs:ba W P ty p=(W++46::P)++69::Lib.itoa p:=by rw[hq];unfold bj;rw[if_neg ht,if_pos hp];rfl
   obtain⟨x1,x2,x3,x4,x5⟩:=Eb (p:=p) (Or.inl rfl) hs h.p1 h.p2
   rw[hql]at x1 x2 x3 x4 x5
   rw[x1,if_pos rfl,if_neg (by omega),x3,if_neg (by decide),x4,x5,hr,if_neg (by decide),if_pos hp,ht1,←ht1]
   congr 3
   rw[hs];simp
theorem Dc (h:RealOK W P ty p):gl (ba W P ty p)=some ⟨1,ty,ba W P ty p⟩:=by
 obtain⟨c,r,hcr⟩: ∃c r,W=c::r:=by
  cases hw:W with
  |nil=>exact absurd hw (dR h.wl)
  |cons c r=>exact⟨c,r,rfl⟩
 have hcd:ah c=true:=h.wd c (by rw[hcr];simp)
 have hcl:aU c=false:=by
  have:=cm.1 hcd
  unfold aU
  rw[Bool.or_eq_false_iff,Bool.and_eq_false_iff,Bool.and_eq_false_iff,decide_eq_false_iff_not,decide_eq_false_iff_not,decide_eq_false_iff_not]
  omega
 have hg:(ba W P ty p)[0]? =some c:=by unfold ba;rw[hcr];rfl
 refine rS (c:=c) (kept:=[]) (yj h) hg (fun e=>by rw[e]at hcd;exact absurd hcd (by decide)) ?_
 unfold bI
 rw[hcl,hcd,←pZ hg (Or.inl hcd),Db h]
 rfl
theorem BZ (h:RealOK W P ty p):gi ty (ba W P ty p)=0:=by
 unfold gi
 rw[if_neg (by rcases h.ty with rfl|rfl<;>decide),if_pos (by rcases h.ty with rfl|rfl<;>simp),if_pos (Dc h)]
end
end Go.Abs
set_option linter.unusedVariables false
set_option linter.unusedSimpArgs false
namespace Go.Abs
open Go Go.Proofs
def rd (u:List UInt8):Except Int (Tok×Nat):=fX (bI false u 0 ((u[0]?).getD 0))
def shN (m:Nat):Except Int (Tok×Nat)→Except Int (Tok×Nat)
 | .ok q=> .ok (q.1,m+q.2)
 | .error e=> .error e
section
variable {s:List UInt8}{m:Nat}
theorem iA {j:Nat}:atC false s (m+j)=atC false (s.drop m) j:=by rw[b7,b7,List.getElem?_drop]
theorem kN {j:Nat}(hm:m≤s.length):atE false s (m+j)=m+atE false (s.drop m) j:=by
 rw[cE,cE,List.length_drop]
 split<;>split<;>omega
theorem wj {p:UInt8→Bool}{j:Nat}(hp:p 0=false):cj false p s (m+j)=cj false p (s.drop m) j:=by rw[cX hp,cX hp,List.drop_drop]
theorem nF {p:UInt8→Bool}{j:Nat}(hp:p 0=false):runE false p s (m+j)=m+runE false p (s.drop m) j:=by rw[cY hp,cY hp,List.drop_drop];omega
theorem rR {j:Nat}(hm:m≤s.length):bg false s (m+j)=((bg false (s.drop m) j).1,m+(bg false (s.drop m) j).2.1,(bg false (s.drop m) j).2.2):=by
 have h1:cq false s (m+j)=cq false (s.drop m) j:=by unfold cq;rw[kN hm,wj jH]
 have h2:dotEnd false s (m+j)=m+dotEnd false (s.drop m) j:=by unfold dotEnd;rw[kN hm,nF jH,kN hm]
 have h3:dk false s (m+j)=dk false (s.drop m) j:=by unfold dk;rw[h1,kN hm,nF jH,iA]
 unfold bg
 rw[iA,h1,h2,h3]
 split<;>rfl
theorem xn {j:Nat}(hm:m≤s.length):aL false s (m+j)=((aL false (s.drop m) j).1,(aL false (s.drop m) j).2.1,m+(aL false (s.drop m) j).2.2.1,(aL false (s.drop m) j).2.2.2):=by
 have h1:bN false s (m+j)=bN false (s.drop m) j:=by unfold bN;rw[iA]
 have h2:bX false s (m+j)=bX false (s.drop m) j:=by unfold bX;rw[kN hm,iA]
 have h3:expStart false s (m+j)=m+expStart false (s.drop m) j:=by
  unfold expStart
  rw[kN hm,iA,kN hm]
  split<;>rfl
 have h4:aP false s (m+j)=aP false (s.drop m) j:=by unfold aP;rw[h3,wj cQ]
 unfold aL
 rw[h1,h2,h3,h4,nF cQ]
 split<;>rfl
theorem KF {j:Nat}(hm:m≤s.length):bO false s (m+j)=shN m (bO false (s.drop m) j):=by
 have h1:bx false s (m+j)=bx false (s.drop m) j:=by unfold bx;rw[wj cQ]
 have h2:bS false s (m+j)=bS false (s.drop m) j:=by unfold bS;rw[h1,nF cQ,iA,rR hm]
 have h3:cB false s (m+j)=cB false (s.drop m) j:=by unfold cB;rw[h2,nF cQ,kN hm,wj cQ]
 have h4:numEnd false s (m+j)=m+numEnd false (s.drop m) j:=by
  unfold numEnd
  rw[h2,nF cQ,kN hm,nF cQ]
  split<;>rfl
 unfold bO
 simp only[h1,h2,h3,h4,xn hm]
 split
 ·cases bU (bx false (s.drop m) j)<;>rfl
 ·unfold real
  split
  ·rfl
  ·split<;>rfl
theorem KG {j:Nat}:cr s (m+j)=shN m (cr (s.drop m) j):=by
 unfold cr
 rw[List.getElem?_drop,List.drop_drop,Nat.add_assoc]
 cases bE ((s[m+j]?).getD 0) (s.drop (m+(j+1)))with
 |none=>rfl
 |some x=>
  simp only
  split
  ·rfl
  ·simp only[shN]
   congr 2
   omega
theorem RU {j:Nat}(hm:m≤s.length):dl false s (m+j)=shN m (dl false (s.drop m) j):=by
 unfold dl
 simp only[kN hm,iA]
 split
 ·rfl
 ·split
  ·rfl
  ·split
   ·rfl
   ·split<;>rfl
theorem eu {q:Except Int (Tok×Nat)}:fX (noK q)=q:=by cases q<;>rfl
theorem KV {c:UInt8}(hm:m≤s.length):fX (bI false s m c)=shN m (fX (bI false (s.drop m) 0 c)):=by
 have a1:cj false aY s m=cj false aY (s.drop m) 0:=wj (j:=0) mM
 have a2:runE false aY s m=m+runE false aY (s.drop m) 0:=nF (j:=0) mM
 have a3:atC false s (m+1)=atC false (s.drop m) (0+1):=iA (j:=1)
 have a4:bO false s m=shN m (bO false (s.drop m) 0):=KF (j:=0) hm
 have a5:bg false s m=((bg false (s.drop m) 0).1,m+(bg false (s.drop m) 0).2.1,(bg false (s.drop m) 0).2.2):=rR (j:=0) hm
 have a6:dl false s m=shN m (dl false (s.drop m) 0):=RU (j:=0) hm
 have a7:fX (cS s m)=shN m (fX (cS (s.drop m) 0)):=by rw[fD,fD];exact KG (j:=0)
 unfold bI
 rw[a1,a2,a3,a4,a5,a6]
 split
 ·split<;>rfl
 ·split
  ·rw[eu,eu]
  ·split
   ·split<;>rfl
   ·split
    ·exact a7
    ·rw[eu,eu]
theorem QK (hm:m≤s.length):fX (bI false s m ((s[m]?).getD 0))=shN m (rd (s.drop m)):=by
 rw[KV hm]
 unfold rd
 rw[List.getElem?_drop,Nat.add_zero]
end
inductive Lex:List UInt8→List Tok→Prop
 |nil {u}:u.drop (aF u)=[]→Lex u []
 |cons {u v t e l}:u.drop (aF u)=v→v≠[]→rd v= .ok (t,e)→Lex (v.drop e) l→Lex u (t::l)
section
variable {s:List UInt8}
theorem Bv {k n:Nat}{out:List Tok}{kept:List Nat}(h:n+aF (s.drop n)<s.length):
  (∃x,rd ((s.drop n).drop (aF (s.drop n)))= .error x∧bA false s (k+1) n out kept=(some (n+aF (s.drop n),x),out,kept))∨
  ∃t e kp,rd ((s.drop n).drop (aF (s.drop n)))= .ok (t,e)∧bA false s (k+1) n out kept=bA false s k (n+aF (s.drop n)+e) (out++[t]) (kept++kp):=by
 have hr:=QK (s:=s) (m:=n+aF (s.drop n)) (by omega)
 rw[←List.drop_drop]at hr
 rw [show bA false s (k + 1) n out kept = (if s.length ≤ n + aF (s.drop n) then (none, out, kept)
  else match de false s out (n+aF (s.drop n))with
   | .error e=>(some (n+aF (s.drop n),e),out,kept)
   | .ok q=>bA false s k q.2.1 (out++[q.1]) (kept++q.2.2))from rfl,if_neg (by omega),l3]
 cases ht:bI false s (n+aF (s.drop n)) ((s[n+aF (s.drop n)]?).getD 0)with
 |error x=>
  rw[ht]at hr
  cases hx:rd ((s.drop n).drop (aF (s.drop n)))with
  |error y=>
   rw[hx]at hr
   injection hr with hr
   subst hr
   exact Or.inl ⟨_,rfl,rfl⟩
  |ok q=>rw[hx]at hr;cases hr
 |ok q=>
  rw[ht]at hr
  cases hx:rd ((s.drop n).drop (aF (s.drop n)))with
  |error y=>rw[hx]at hr;cases hr
  |ok r=>
   rw[hx]at hr
   injection hr with hr
   refine Or.inr ⟨r.1,r.2,q.2.2,rfl,?_⟩
   have h1:q.1=r.1:=congrArg Prod.fst hr
   have h2:q.2.1=n+aF (s.drop n)+r.2:=congrArg Prod.snd hr
   simp only[h1,h2]
theorem Kt {v:List UInt8}{t:Tok}{e:Nat}(h0: ∀c r,v=c::r→c≠32)(hv:v≠[])(h:rd v= .ok (t,e)):1≤e∧e≤v.length:=by
 obtain⟨c,r,rfl⟩: ∃c r,v=c::r:=by
  cases v with
  |nil=>exact absurd rfl hv
  |cons c r=>exact⟨c,r,rfl⟩
 have hf:=iD (fx:=false) (s:=c::r) (out:=[]) (n:=0) (c:=c) rfl (h0 c r rfl)
 rw[l3]at hf
 unfold rd at h
 cases hq:bI false (c::r) 0 (((c::r)[0]?).getD 0)with
 |error x=>rw[hq]at h;cases h
 |ok q=>
  rw[hq]at h hf
  injection h with h
  have h2:q.2.1=e:=congrArg Prod.snd h
  obtain⟨f1,f2,_⟩:=hf
  omega
theorem nP (u:List UInt8): ∀c r,u.drop (aF u)=c::r→c≠32:=iL u
theorem JK: ∀(k n:Nat) (out:List Tok) (kept:List Nat) (l:List Tok),s.length<n+k→n≤s.length→Lex (s.drop n) l→ ∃kp,bA false s k n out kept=(none,out++l,kp):=by
 intro k
 induction k with
 |zero=>intro n out kept l h1 h2;omega
 |succ k ih=>
  intro n out kept l h1 h2 hl
  have hb:=gL (s.drop n)
  rw[List.length_drop]at hb
  cases hl with
  |nil h=>
   refine⟨kept,?_⟩
   have hlen:s.length≤n+aF (s.drop n):=by
    have:=congrArg List.length h
    rw[List.length_drop,List.length_drop]at this
    simp at this
    omega
   unfold bA
   rw[if_pos hlen,List.append_nil]
  |cons h hv hr hl=>
   rename_i v t e l
   have hlen:n+aF (s.drop n)<s.length:=by
    have h3:=congrArg List.length h
    rw[List.length_drop,List.length_drop]at h3
    have:v.length≠0:=fun e=>hv (List.eq_nil_of_length_eq_zero e)
    omega
   have hp:=Kt (by rw[←h];exact nP _) hv hr
   have hvl:v.length=s.length-(n+aF (s.drop n)):=by rw[←h,List.length_drop,List.length_drop];omega
   rcases Bv (k:=k) (out:=out) (kept:=kept) hlen with⟨x,hx,_⟩|⟨t',e',kp,hx,hy⟩
   ·rw[h,hr]at hx;cases hx
   ·rw[h,hr]at hx
    injection hx with hx
    injection hx with h5 h6
    subst h5 h6
    rw[hy]
    obtain⟨kq,hq⟩:=ih (n+aF (s.drop n)+e) (out++[t]) (kept++kp) l (by omega) (by omega) (by rw[←List.drop_drop,←List.drop_drop,h];exact hl)
    exact⟨kq,by rw[hq];simp⟩
theorem KK: ∀(k n:Nat) (out:List Tok) (kept:List Nat) (o:List Tok) (kp:List Nat),s.length<n+k→n≤s.length→bA false s k n out kept=(none,o,kp)→ ∃l,o=out++l∧Lex (s.drop n) l:=by
 intro k
 induction k with
 |zero=>intro n out kept l kp h1 h2;omega
 |succ k ih=>
  intro n out kept o kp h1 h2 h
  have hb:=gL (s.drop n)
  rw[List.length_drop]at hb
  by_cases hlen:s.length≤n+aF (s.drop n)
  ·unfold bA at h
   rw[if_pos hlen]at h
   injection h with _ h
   injection h with h _
   refine⟨[],by rw[h];simp,.nil ?_⟩
   rw[List.drop_drop]
   exact List.drop_eq_nil_of_le hlen
  ·obtain⟨v,hv⟩: ∃v,v=(s.drop n).drop (aF (s.drop n)):=⟨_,rfl⟩
   have hvl:v.length=s.length-(n+aF (s.drop n)):=by rw[hv,List.length_drop,List.length_drop];omega
   have hv0:v≠[]:=fun e=>by rw[e]at hvl;simp at hvl;omega
   rcases Bv (k:=k) (out:=out) (kept:=kept) (by omega:n+aF (s.drop n)<s.length)with⟨x,hx,hy⟩|⟨t',e',kq,hx,hy⟩
   ·rw[hy]at h;cases h
   ·rw[hy]at h
    rw[←hv]at hx
    have hp:=Kt (by rw[hv];exact nP _) hv0 hx
    obtain⟨l,h3,h4⟩:=ih _ _ _ _ _ (by omega) (by omega) h
    refine⟨t'::l,by rw[h3];simp,.cons hv.symm hv0 hx ?_⟩
    rw[←List.drop_drop,←List.drop_drop,←hv]at h4
    exact h4
theorem De {l:List Tok}(ht:bp s=0)(hl:Lex s l)(hn:l.length≤300):(bc false s).e=0∧ct false s=l:=by
 obtain⟨kp,h⟩:=JK (s:=s) (s.length+1) 0 [] [] l (by omega) (by omega) hl
 have hs:bc false s=⟨l,kp,l.length,0⟩:=by
  unfold bc
  rw[if_pos ht,h]
  simp only[List.nil_append]
  rw[if_pos (show (bF none).2=0 from rfl),if_neg (by omega)]
 refine⟨by rw[hs],?_⟩
 unfold ct
 rw[hs]
 rfl
theorem sW (h:(bc false s).e=0):bp s=0∧Lex s (ct false s)∧(ct false s).length≤300:=by
 obtain⟨ht,hl,_⟩:=oI h
 have hT:ct false s=(bc false s).toks:=by unfold ct;rw[if_pos h]
 refine⟨ht,?_⟩
 rw[hT]
 unfold bc at h ⊢
 rw[if_pos ht]at h ⊢
 simp only at h ⊢
 obtain⟨x,o,kp,hr⟩: ∃x o kp,bA false s (s.length+1) 0 [] []=(x,o,kp):=⟨_,_,_,rfl⟩
 rw[hr]at h ⊢
 simp only at h ⊢
 cases x with
 |none=>
  obtain⟨l,h1,h2⟩:=KK (s:=s) (s.length+1) 0 [] [] o kp (by omega) (by omega) hr
  simp only[List.nil_append]at h1
  subst h1
  rw[if_pos (show (bF none).2=0 from rfl)]at h ⊢
  by_cases h3:300<o.length
  ·rw[if_pos h3]at h;exact absurd h (by simp)
  ·rw[if_neg h3]
   exact⟨h2,by show o.length≤300;omega⟩
 |some w=>
  have:=rT (fx:=false) (s:=s) (s.length+1) 0 [] [] w.1 w.2 (by rw[hr])
  have e:(bF (some w)).2=w.2:=rfl
  rw[e,if_neg this]at h
  exact absurd h this
end
end Go.Abs
set_option linter.unusedVariables false
set_option linter.unusedSimpArgs false
namespace Go.Abs
open Go Go.Proofs
def hd (u:List UInt8):UInt8:=(u[0]?).getD 0
theorem eP {c:UInt8}{r:List UInt8}:hd (c::r)=c:=rfl
theorem dc {a b:List UInt8}(h:a≠[]):hd (a++b)=hd a:=by
 cases a with
 |nil=>exact absurd rfl h
 |cons c r=>rfl
theorem PA {p:UInt8→Bool}{u:List UInt8}(h:p (hd u)=false): ∀c t,u=c::t→p c=false:=by
 rintro c t rfl;exact h
theorem oQ {p:UInt8→Bool}{v r:List UInt8}(h1: ∀b∈v,p b=true)(h2:p (hd r)=false):(v++r).takeWhile p=v:=kw (W:=[]) v r h1 (PA h2)
theorem kb {a b:List UInt8}:(a++b).drop a.length=b:=List.drop_left' rfl
theorem at0 {u:List UInt8}:atC false u 0=hd u:=rfl
theorem wY (y:List UInt8):aL false y 0=if bN false y 0=69∨bN false y 0=68 then(bN false y 0,bX false y 0++aP false y 0,runE false ah y (expStart false y 0),!decide (aP false y 0=[]))else(0,[],0,false):=rfl
section
variable {W P y:List UInt8}
theorem gX (hw: ∀b∈W,ah b=true)(hp: ∀b∈P,ah b=true)(hP:P≠[])(hy:ah (hd y)=false):
  bO false (W++46::(P++y)) 0=real W P (aL false y 0).2.1 (aL false y 0).1 (aL false y 0).2.2.2 (W.length+1+P.length+(if(aL false y 0).2.2.2 then(aL false y 0).2.2.1 else 0)):=by
 obtain⟨u,hu⟩: ∃u,u=W++46::(P++y):=⟨_,rfl⟩
 have hul:u.length=W.length+1+P.length+y.length:=by rw[hu];simp;omega
 have d1:u.drop W.length=46::(P++y):=by rw[hu];exact kb
 have d2:u.drop (W.length+1)=P++y:=by rw[←List.drop_drop,d1];rfl
 have d3:u.drop (W.length+1+P.length)=y:=by rw[←List.drop_drop,d2];exact kb
 have t0:(u.drop 0).takeWhile ah=W:=by rw[List.drop_zero,hu];exact iC (by decide) W _ hw
 have r0:runE false ah u 0=W.length:=by rw[cY cQ,t0,Nat.zero_add]
 have w0:bx false u 0=W:=by unfold bx;rw[cX cQ,t0]
 have c0:atC false u W.length=46:=by have:=iA (s:=u) (m:=W.length) (j:=0);rw[Nat.add_zero,d1]at this;rw[this];rfl
 have e0:atE false u W.length=W.length+1:=by rw[cE,if_pos (by omega)]
 obtain⟨c,r,hcr⟩: ∃c r,P=c::r:=by
  cases P with
  |nil=>exact absurd rfl hP
  |cons c r=>exact⟨c,r,rfl⟩
 have hcd:ah c=true:=hp c (by rw[hcr];simp)
 have hcl:aU c=false:=by
  have:=cm.1 hcd
  unfold aU
  rw[Bool.or_eq_false_iff,Bool.and_eq_false_iff,Bool.and_eq_false_iff,decide_eq_false_iff_not,decide_eq_false_iff_not,decide_eq_false_iff_not]
  omega
 have dt:(bg false u W.length).2.2=false:=by
  have h1:dk false u W.length=false:=by
   unfold dk
   rw[e0,cY jH,d2,hcr,List.cons_append,List.takeWhile_cons,hcl]
   have:atC false u (W.length+1)=c:=by have:=iA (s:=u) (m:=W.length+1) (j:=0);rw[Nat.add_zero,d2,hcr]at this;rw[this];rfl
   simp only[Bool.false_eq_true,if_false,List.length_nil,Nat.add_zero]
   rw[this,decide_eq_false (by rintro rfl;exact absurd hcd (by decide))]
   rfl
  unfold bg
  rw[if_pos c0]
  exact h1
 have nd:bS false u 0=true:=by unfold bS;rw[r0,c0,dt];rfl
 have np:cB false u 0=P:=by unfold cB;rw[if_pos nd,r0,e0,cX cQ,d2];exact oQ hp hy
 have ne:numEnd false u 0=W.length+1+P.length:=by unfold numEnd;rw[if_pos nd,r0,e0,cY cQ,d2,oQ hp hy]
 have hx:aL false u (W.length+1+P.length)=((aL false y 0).1,(aL false y 0).2.1,W.length+1+P.length+(aL false y 0).2.2.1,(aL false y 0).2.2.2):=by
  have:=xn (s:=u) (m:=W.length+1+P.length) (j:=0) (by omega)
  rw[d3]at this
  exact this
 rw[←hu]
 unfold bO
 simp only[nd,w0,np,ne,hx,Bool.not_true,Bool.false_and,Bool.false_eq_true,if_false]
 cases (aL false y 0).2.2.2<;>rfl
theorem rG (hw: ∀b∈W,ah b=true)(h0:W≠[])(hy:ah (hd y)=false)(hdot:hd y=46→dk false y 0=true):
  bO false (W++y) 0=if(aL false y 0).2.2.2 then real W [] (aL false y 0).2.1 (aL false y 0).1 true (W.length+(aL false y 0).2.2.1)else(match bU W with| .ok t=> .ok (t,W.length)| .error e=> .error e):=by
 obtain⟨u,hu⟩: ∃u,u=W++y:=⟨_,rfl⟩
 have hul:u.length=W.length+y.length:=by rw[hu];simp
 have d1:u.drop W.length=y:=by rw[hu];exact kb
 have t0:(u.drop 0).takeWhile ah=W:=by rw[List.drop_zero,hu];exact oQ hw hy
 have r0:runE false ah u 0=W.length:=by rw[cY cQ,t0,Nat.zero_add]
 have w0:bx false u 0=W:=by unfold bx;rw[cX cQ,t0]
 have c0:atC false u W.length=hd y:=by have:=iA (s:=u) (m:=W.length) (j:=0);rw[Nat.add_zero,d1]at this;rw[this];rfl
 have hdt:bg false u W.length=((bg false y 0).1,W.length+(bg false y 0).2.1,(bg false y 0).2.2):=by
  have:=rR (s:=u) (m:=W.length) (j:=0) (by omega)
  rw[d1]at this
  exact this
 have nd:bS false u 0=false:=by
  unfold bS
  rw[r0,c0,w0,hdt]
  by_cases h46:hd y=46
  ·have:(bg false y 0).2.2=true:=by unfold bg;rw[at0,if_pos h46];exact hdot h46
   rw[this,decide_eq_false h0]
   simp
  ·rw[decide_eq_false h46];rfl
 have ne:numEnd false u 0=W.length:=by unfold numEnd;rw[nd,r0];rfl
 have np:cB false u 0=[]:=by unfold cB;rw[nd];rfl
 have hx:aL false u W.length=((aL false y 0).1,(aL false y 0).2.1,W.length+(aL false y 0).2.2.1,(aL false y 0).2.2.2):=by
  have:=xn (s:=u) (m:=W.length) (j:=0) (by omega)
  rw[d1]at this
  exact this
 rw[←hu]
 unfold bO
 simp only[nd,w0,np,ne,hx,Bool.not_false,Bool.true_and]
 cases (aL false y 0).2.2.2<;>rfl
theorem ko {w p d:List UInt8}{L:UInt8}{ok:Bool}{e:Nat}{q:Tok×Nat}(h:real w p d L ok e= .ok q):q.1.kind=1∧(q.1.type=1∨q.1.type=2)∧q.2=e:=by
 unfold real at h
 split at h
 ·cases h
 ·injection h with h
  subst h
  unfold c8
  split
  ·exact⟨rfl,Or.inr rfl,rfl⟩
  ·split
   ·exact⟨rfl,Or.inl rfl,rfl⟩
   ·exact⟨rfl,Or.inl rfl,rfl⟩
theorem mF {L:UInt8}{sg D r:List UInt8}(hL:L=69∨L=68)(hsg:sg=[]∨sg=[45])(hD: ∀b∈D,ah b=true)(h0:D≠[])(hr:ah (hd r)=false):
  aL false (L::(sg++(D++r))) 0=(L,sg++D,1+sg.length+D.length,true):=by
 obtain⟨c,q,hcq⟩: ∃c q,D=c::q:=by
  cases D with
  |nil=>exact absurd rfl h0
  |cons c r=>exact⟨c,r,rfl⟩
 have hcd:ah c=true:=hD c (by rw[hcq];simp)
 obtain⟨u,hu⟩: ∃u,u=L::(sg++(D++r)):=⟨_,rfl⟩
 have hul:u.length=1+sg.length+D.length+r.length:=by rw[hu];simp;omega
 have hD1:1≤D.length:=by rw[hcq];simp
 have hxL:bN false u 0=L:=by
  unfold bN
  rw[at0,hu,eP]
  rcases hL with rfl|rfl<;>rfl
 have e0:atE false u 0=1:=by rw[cE,if_pos (by omega)]
 have hboth:expStart false u 0=1+sg.length∧bX false u 0=sg:=by
  unfold expStart bX
  rcases hsg with rfl|rfl
  ·have c1:atC false u 1=c:=by rw[b7,hu,hcq];rfl
   have n43:c≠43:=by rintro rfl;exact absurd hcd (by decide)
   have n45:c≠45:=by rintro rfl;exact absurd hcd (by decide)
   rw[e0,c1,if_neg n45,if_neg (by simp[n43,n45])]
   exact⟨rfl,rfl⟩
  ·have c1:atC false u 1=45:=by rw[b7,hu];rfl
   rw[e0,c1,if_pos rfl,if_pos (Or.inr rfl),cE,if_pos (by rw[hul];simp;omega)]
   exact⟨rfl,rfl⟩
 obtain⟨hst,hsi⟩:=hboth
 have d1:u.drop (1+sg.length)=D++r:=by
  rw[Nat.add_comm,hu,List.drop_succ_cons]
  exact kb
 have hdi:aP false u 0=D:=by unfold aP;rw[hst,cX cQ,d1];exact oQ hD hr
 have hre:runE false ah u (1+sg.length)=1+sg.length+D.length:=by rw[cY cQ,d1,oQ hD hr]
 rw[←hu,wY,hxL,if_pos hL,hsi,hdi,hst,hre,decide_eq_false h0]
 rfl
theorem pH {y:List UInt8}(h:hd y≠69∧hd y≠101∧hd y≠68∧hd y≠100):(aL false y 0).2.2.2=false:=by
 rw[wY,if_neg]
 unfold bN
 rw[at0]
 have:=lT (hd y)
 rintro(h1|h1)
 ·rcases this.1.1 h1 with h2|h2
  ·exact h.1 h2
  ·exact h.2.1 h2
 ·rcases this.2.1 h1 with h2|h2
  ·exact h.2.2.1 h2
  ·exact h.2.2.2 h2
theorem LB {a c:UInt8}{r:List UInt8}(h1:ah c=false)(h2:c≠43)(h3:c≠45):(aL false (a::c::r) 0).2.2.2=false:=by
 have e0:atE false (a::c::r) 0=1:=rfl
 have c1:atC false (a::c::r) 1=c:=rfl
 have hst:expStart false (a::c::r) 0=1:=by
  unfold expStart
  rw[e0,c1,if_neg (by simp[h2,h3])]
 have hdi:aP false (a::c::r) 0=[]:=by
  unfold aP
  rw[hst,cX cQ]
  show List.takeWhile ah (c::r)=[]
  rw[List.takeWhile_cons,h1]
  rfl
 rw[wY]
 split
 ·rw[hdi];rfl
 ·rfl
end
theorem mg {c:UInt8}(h:ah c=true):aU c=false:=by
 have:=cm.1 h
 unfold aU
 rw[Bool.or_eq_false_iff,Bool.and_eq_false_iff,Bool.and_eq_false_iff,decide_eq_false_iff_not,decide_eq_false_iff_not,decide_eq_false_iff_not]
 omega
theorem jq {u:List UInt8}(h:ah (hd u)=true∨(hd u=46∧ah (hd (u.drop 1))=true)):rd u=bO false u 0:=by
 have e1:atC false u (0+1)=hd (u.drop 1):=by have:=iA (s:=u) (m:=1) (j:=0);exact this
 unfold rd bI
 rw[show (u[0]?).getD 0=hd u from rfl,e1]
 rcases h with h|⟨h1,h2⟩
 ·rw[mg h,h,if_neg (by simp),Bool.true_or,if_pos rfl,eu]
 ·rw[h1,h2,if_neg (by decide),show (ah 46||(decide ((46:UInt8)=46)&&true))=true from rfl,if_pos rfl,eu]
theorem wa {u:List UInt8}(h:aU (hd u)=true):rd u=if 31<(u.takeWhile aY).length then .error 4 else .ok (⟨0,0,(u.takeWhile aY).map upB⟩,(u.takeWhile aY).length):=by
 unfold rd bI
 rw[show (u[0]?).getD 0=hd u from rfl,h,if_pos rfl,KX,cX mM,cY mM,List.drop_zero,Nat.zero_add]
 split<;>rfl
theorem Kr {u:List UInt8}(h:hd u=46)(h2:ah (hd (u.drop 1))=false):rd u=if dk false u 0 then .ok (cz (cq false u 0),dotEnd false u 0)else .error 7:=by
 have e1:atC false u (0+1)=hd (u.drop 1):=by have:=iA (s:=u) (m:=1) (j:=0);exact this
 unfold rd bI
 rw[show (u[0]?).getD 0=hd u from rfl,e1,h,h2,if_neg (by decide),show (ah 46||(decide ((46:UInt8)=46)&&false))=false from rfl,if_neg (by simp),if_pos rfl]
 unfold bg
 rw[at0,if_pos h]
 simp only
 split<;>rfl
theorem uT {u:List UInt8}(h:hd u=39∨hd u=34):rd u=cr u 0:=by
 unfold rd bI
 rw[show (u[0]?).getD 0=hd u from rfl]
 rcases h with h|h
 ·rw[h,if_neg (by decide),show (ah 39||(decide ((39:UInt8)=46)&&ah (atC false u (0+1))))=false from rfl,if_neg (by simp),if_neg (by decide),if_pos (by decide),fD]
 ·rw[h,if_neg (by decide),show (ah 34||(decide ((34:UInt8)=46)&&ah (atC false u (0+1))))=false from rfl,if_neg (by simp),if_neg (by decide),if_pos (by decide),fD]
def sN (c:UInt8):Bool:= !(aU c||ah c||decide (c=46)||decide (c=39)||decide (c=34)||decide (c=32)||decide (c=0))
theorem mj {c:UInt8}{r:List UInt8}(h:sN c=true):rd (c::r)=opC c (r[0]?) 0:=by
 unfold sN at h
 simp only[Bool.not_eq_true',Bool.or_eq_false_iff,decide_eq_false_iff_not]at h
 obtain⟨⟨⟨⟨⟨⟨h1,h2⟩,h3⟩,h4⟩,h5⟩,h6⟩,h7⟩:=h
 unfold rd bI
 rw[show ((c::r)[0]?).getD 0=c from rfl,h1,if_neg (by simp),h2,decide_eq_false h3,if_neg (by simp),if_neg h3,if_neg (by simp[h4,h5]),eu,Kd (s:=c::r) (n:=0) (c:=c) rfl h6]
 rfl
end Go.Abs
set_option linter.unusedVariables false
set_option linter.unusedSimpArgs false
set_option maxRecDepth 100000
namespace Go.Abs
open Go Go.Proofs
section
variable {μ:Mu}{s:List UInt8}
section
variable {W P:List UInt8}{ty p:Int}
theorem MG (h:RealOK W P ty p):W.length≤31∧P.length≤31∧(Lib.itoa p).length≤21∧(ba W P ty p).length≤100:=by
 have h1:=nn (l:=W)
 have h2:=nn (l:=P)
 have h3:=h.cnt
 have h4:=Lib.itoa_length_le p (by have:=h.p1;omega) (by have:=h.p2;omega)
 refine⟨by omega,by omega,h4,?_⟩
 unfold ba bj
 split
 ·simp;omega
 ·split
  ·simp;omega
  ·simp;omega
theorem q9 (h1: -999≤p)(h2:p≤999):cg (Lib.itoa p)=p:=by
 rcases jI p with⟨m,rfl,hi⟩|⟨m,hm,rfl,hi⟩
 ·have hl:=fe 3 m (by omega) (by omega)
  rw[hi]
  unfold cg
  rw[d6 (gq m) (mE m) (by omega),iE]
 ·have hl:=fe 3 m (by omega) (by omega)
  rw[hi]
  unfold cg
  rw[pz (gq m) (mE m) (by omega),iE]
end
end
end Go.Abs
set_option linter.unusedVariables false
set_option linter.unusedSimpArgs false
set_option maxRecDepth 100000
namespace Go.Abs
open Go Go.Proofs
section
variable {μ:Mu}{s:List UInt8}
section
variable {W P:List UInt8}{ty p:Int}{a:List UInt8}{b:Int}
theorem wu (l:List UInt8):bQ (l++[48])=bQ l:=by
 unfold bQ Lib.trimRightB
 rw[List.reverse_append]
 simp[List.dropWhile_cons]
theorem tF {l:List UInt8}{c:UInt8}(h:c≠48):bQ (l++[c])=l++[c]:=by
 unfold bQ Lib.trimRightB
 rw[List.reverse_append]
 simp[List.dropWhile_cons,h]
end
end
end Go.Abs
set_option linter.unusedVariables false
set_option linter.unusedSimpArgs false
namespace Go.Abs
open Go Go.Proofs
inductive VT:Tok→Prop
 |name {a}:lC a=true→VT ⟨0,0,a⟩
 |int {a}:eo a=true→valD 0 a≤2147483647→VT ⟨1,0,a⟩
 |real {W P ty p}:RealOK W P ty p→VT ⟨1,ty,ba W P ty p⟩
 |logic {a}:a=eW∨a=ee→VT ⟨1,5,a⟩
 |chars {u}:cZ u=true→u.length≤60→VT ⟨1,6,aR u⟩
 |word {a}:a∈bT→VT ⟨2,0,a⟩
 |sign {a}:a∈bm→VT ⟨2,0,a⟩
section
variable {a r:List UInt8}
theorem ed (h:lC a=true):a.length≤31∧aU (hd a)=true∧(∀b∈a,aY b=true)∧a.map upB=a∧a≠[]:=by
 unfold lC sD at h
 simp only[Bool.and_eq_true,decide_eq_true_eq,Bool.not_eq_true']at h
 obtain⟨⟨⟨h1,h2⟩,h3⟩,h4⟩:=h
 cases a with
 |nil=>cases h2
 |cons c t=>exact⟨h1,h2,fun b hb=>List.all_eq_true.1 h3 b hb,(kG _).2 h4,by simp⟩
theorem EN (h:lC a=true)(hr:aY (hd r)=false):rd (a++r)= .ok (⟨0,0,a⟩,a.length):=by
 obtain⟨h1,h2,h3,h4,h5⟩:=ed h
 rw[wa (by rw[dc h5];exact h2),oQ h3 hr,if_neg (by omega),h4]
theorem dS (h:eo a=true):a.length≤10∧(∀b∈a,ah b=true)∧gF a∧a≠[]∧ah (hd a)=true:=by
 obtain⟨h1,h2,h3⟩:=jl.1 h
 have h0:a≠[]:=dR h3
 refine⟨h1,h2,h3,h0,?_⟩
 cases a with
 |nil=>exact absurd rfl h0
 |cons c t=>exact h2 c (by simp)
theorem Oi (h:eo a=true)(h2:valD 0 a≤2147483647):bU a= .ok ⟨1,0,a⟩:=by
 obtain⟨f1,f2,f3,f4,_⟩:=dS h
 have ha:=d6 f2 f4 f1
 have hv:cg a=(valD 0 a:Nat):=by unfold cg;rw[ha]
 have hk:iT a=true:=by unfold iT;rw[ha]
 unfold bU
 rw[if_neg (by rw[hk,hv];simp;omega),hv,gR,wS a.length a rfl f2 f3]
theorem Ks (h:eo a=true)(h2:valD 0 a≤2147483647)(hr:ah (hd r)=false)(hdot:hd r=46→dk false r 0=true)(hx:(aL false r 0).2.2.2=false):rd (a++r)= .ok (⟨1,0,a⟩,a.length):=by
 obtain⟨f1,f2,f3,f4,f5⟩:=dS h
 rw[jq (Or.inl (by rw[dc f4];exact f5)),rG f2 f4 hr hdot,hx,if_neg (by simp),Oi h h2]
section
variable {W P:List UInt8}{ty p:Int}
theorem oH (h:RealOK W P ty p):P≠[]:=fun e=>dR h.pl (by rw[e];rfl)
def ly (W W':List UInt8):Prop:=W'=W∨(W=[48]∧W'=[])
theorem K0 (h:RealOK W P ty p){W':List UInt8}(hW:ly W W'): ∀b∈W',ah b=true:=by
 rcases hW with rfl|⟨_,rfl⟩
 ·exact h.wd
 ·intro b hb;cases hb
theorem l9 (h:RealOK W P ty p){W':List UInt8}(hW:ly W W'):bh (dn W')=W∧(dn W').length=countR W:=by
 have h1:bh (dn W)=W:=by rw[←ra,xF h.wl]
 rcases hW with rfl|⟨h2,rfl⟩
 ·exact⟨h1,by rw[←pD,h1]⟩
 ·rw[h2];exact⟨rfl,rfl⟩
theorem rZ (h:RealOK W P ty p):bh (bQ P)=P∧(bQ P).length=countR P:=by
 have h1:bh (bQ P)=P:=by rw[←uA,zG h.pl]
 exact⟨h1,by rw[←nO,h1]⟩
theorem QL (l:List UInt8):bQ (l++[48])=bQ l:=wu l
theorem Bf {W' y:List UInt8}(h:RealOK W P ty p)(hW:ly W W')(P':List UInt8)(hP':P'=P∨P'=P++[48])(hy:ah (hd y)=false):
  rd (W'++46::(P'++y))=real W' P' (aL false y 0).2.1 (aL false y 0).1 (aL false y 0).2.2.2 (W'.length+1+P'.length+(if(aL false y 0).2.2.2 then(aL false y 0).2.2.1 else 0)):=by
 have hP:=oH h
 have hd': ∀b∈P',ah b=true:=by
  rcases hP' with rfl|rfl
  ·exact h.pd
  ·intro b hb
   rcases List.mem_append.1 hb with hb|hb
   ·exact h.pd b hb
   ·rw[List.mem_singleton.1 hb];rfl
 have hne:P'≠[]:=by rcases hP' with rfl|rfl<;>simp[hP]
 rw[jq ?_,gX (K0 h hW) hd' hne hy]
 have hW0:=dR h.wl
 rcases hW with rfl|⟨_,rfl⟩
 ·left
  rw[dc hW0]
  cases W' with
  |nil=>exact absurd rfl hW0
  |cons c t=>exact h.wd c (by simp)
 ·right
  refine⟨rfl,?_⟩
  show ah (hd (P'++y))=true
  rw[dc hne]
  cases P' with
  |nil=>exact absurd rfl hne
  |cons c t=>exact hd' c (by simp)
theorem wv (h:RealOK W P ty p){P':List UInt8}(hP':P'=P∨P'=P++[48]):bh (bQ P')=P∧(bQ P').length=countR P:=by
 rcases hP' with rfl|rfl
 ·exact rZ h
 ·rw[QL];exact rZ h
theorem p7 (h:RealOK W P ty p){W' P':List UInt8}(hW:ly W W')(hP':P'=P∨P'=P++[48]):dY W' P'=W++[46]++P:=by
 unfold dY
 rw[(l9 h hW).1,(wv h hP').1]
theorem uU {W' P' y:List UInt8}(h:RealOK W P 1 0)(hW:ly W W')(hP':P'=P∨P'=P++[48])(hy:ah (hd y)=false)(hx:(aL false y 0).2.2.2=false):
  rd (W'++46::(P'++y))= .ok (⟨1,1,ba W P 1 0⟩,W'.length+1+P'.length):=by
 have hc:=h.cnt
 rw[Bf h hW P' hP' hy,hx]
 unfold real jr
 rw[(l9 h hW).2,(wv h hP').2,decide_eq_false (by omega),Bool.and_false,Bool.or_self,if_neg (by simp)]
 unfold c8 ep
 simp only[Bool.false_eq_true,and_false,if_false,if_true,Nat.add_zero]
 rw[p7 h hW hP']
 unfold ba bj
 rw[if_neg (by decide),if_neg (by simp)]
 simp
theorem vD (p:Int): ∃sg D,Lib.itoa p=sg++D∧(sg=[]∨sg=[45])∧(∀b∈D,ah b=true)∧D≠[]∧(sg=[45]→1≤valD 0 D∧p= -(valD 0 D:Nat))∧(sg=[]→p=(valD 0 D:Nat))∧(p=0→D=[48]):=by
 rcases jI p with⟨m,h1,h2⟩|⟨m,h0,h1,h2⟩
 ·refine⟨[],Lib.decDigits m,h2,Or.inl rfl,gq m,mE m,fun e=>absurd e (by simp),fun _=>by rw[iE,h1],fun e=> ?_⟩
  have:m=0:=by omega
  subst this
  exact jj (by omega)
 ·exact⟨[45],Lib.decDigits m,h2,Or.inr rfl,gq m,mE m,fun _=>by rw[iE];exact⟨h0,h1⟩,fun e=>absurd e (by simp),fun e=>by omega⟩
theorem Pp:cg [48,48]=0:=by
 unfold cg
 rw[d6 (by decide) (by simp) (by decide)]
 rfl
theorem uV {W' z r:List UInt8}(h:RealOK W P ty p)(hp:ty=2∨p≠0)(hW:ly W W')(hz:z=[]∨(z=[48]∧p=0))(hr:ah (hd r)=false):
  rd (W'++46::(P++(bj ty p++(z++r))))= .ok (⟨1,ty,ba W P ty p⟩,W'.length+1+P.length+(bj ty p).length+z.length):=by
 obtain⟨sg,D,h1,h2,h3,h4,h5,h6,h7⟩:=vD p
 have hc:=h.cnt
 obtain⟨L,hL,hT⟩: ∃L,((L=68∧ty=2)∨(L=69∧ty=1∧p≠0))∧bj ty p=L::(sg++D):=by
  unfold bj
  rcases h.ty with ht|ht
  ·have hp':p≠0:=hp.resolve_left (by rw[ht];decide)
   exact⟨69,Or.inr ⟨rfl,ht,hp'⟩,by rw[if_neg (by rw[ht];decide),if_pos hp',h1];rfl⟩
  ·exact⟨68,Or.inl ⟨rfl,ht⟩,by rw[if_pos ht,h1];rfl⟩
 have hDz: ∀b∈D++z,ah b=true:=by
  intro b hb
  rcases List.mem_append.1 hb with hb|hb
  ·exact h3 b hb
  ·rcases hz with rfl|⟨rfl,_⟩
   ·cases hb
   ·rw[List.mem_singleton.1 hb];rfl
 have hy:bj ty p++(z++r)=L::(sg++((D++z)++r)):=by rw[hT];simp
 have hLs:L=69∨L=68:=by rcases hL with h|h;exact Or.inr h.1;exact Or.inl h.1
 have hE:=mF hLs h2 hDz (by simp[h4]) hr
 have hyd:ah (hd (L::(sg++((D++z)++r))))=false:=by rw[eP];rcases hLs with rfl|rfl<;>rfl
 have hl3:D.length≤3:=by
  rcases jI p with⟨m,k1,k2⟩|⟨m,k0,k1,k2⟩
  ·have hp1:=h.p1;have hp2:=h.p2
   have hm:=fe 3 m (by omega) (by omega)
   have:(sg++D).length=(Lib.decDigits m).length:=by rw[←h1,k2]
   simp only[List.length_append]at this
   omega
  ·have hp1:=h.p1;have hp2:=h.p2
   have hm:=fe 3 m (by omega) (by omega)
   have e:(sg++D).length=(Lib.decDigits m).length+1:=by rw[←h1,k2];simp
   simp only[List.length_append]at e
   rcases h2 with rfl|rfl
   ·have:=h6 rfl;omega
   ·simp at e;omega
 have hzl:(D++z).length≤3:=by
  rcases hz with rfl|⟨rfl,hz0⟩
  ·simpa using hl3
  ·rw[h7 hz0];decide
 have hpre:(Lib.trimPrefix (sg++(D++z)) [45]).length≤3:=by
  rcases h2 with rfl|rfl
  ·rw[List.nil_append,(gw hDz).1];exact hzl
  ·rw[(gw hDz).2];exact hzl
 have hval:cg (sg++(D++z))=p:=by
  rcases hz with rfl|⟨rfl,hz0⟩
  ·rw[List.append_nil,←h1];exact q9 h.p1 h.p2
  ·have:sg=[]:=by
    rcases h2 with h|h
    ·exact h
    ·have:=h5 h;omega
   rw[this,h7 hz0,hz0];exact Pp
 rw[hy,Bf h hW P (Or.inl rfl) hyd,hE]
 simp only[if_true]
 unfold real jr
 rw[(l9 h hW).2,(rZ h).2,decide_eq_false (by omega),decide_eq_false (by omega),Bool.false_and,Bool.or_self,if_neg (by simp)]
 unfold c8 ep
 simp only[if_true]
 rw[hval,p7 h hW (Or.inl rfl)]
 have hlen:W'.length+1+P.length+(1+sg.length+(D++z).length)=W'.length+1+P.length+(bj ty p).length+z.length:=by
  rw[hT];simp;omega
 rw[hlen]
 rcases hL with⟨rfl,ht⟩|⟨rfl,ht,hp0⟩
 ·subst ht
  rw[if_pos ⟨rfl,trivial⟩]
  unfold ba bj
  rw[if_pos rfl]
  simp
 ·subst ht
  rw[if_neg (by simp),if_neg (fun e=>hp0 (xQ.1 e))]
  unfold ba bj
  rw[if_neg (by decide),if_pos hp0]
  simp
end
theorem Be {u:List UInt8}(hu:u.length≤60)(hr:hd r≠39):rd (aR u++r)= .ok (⟨1,6,aR u⟩,(aR u).length):=by
 have h1:hd (aR u++r)=39:=rfl
 rw[uT (Or.inl h1)]
 have hq: ∀w:List UInt8,bE 39 (dbl w++([39]++r))=some (w,(dbl w).length+1):=by
  intro w
  induction w with
  |nil=>exact ei (fun d t h=>by rintro rfl;exact hr (by have h':r=39::t:=h;rw[h'];rfl))
  |cons c t ih=>
   by_cases hc:c=39
   ·subst hc
    rw[dbl,if_pos rfl,List.cons_append,List.cons_append,eM,ih]
    simp only[Option.map_some,List.length_cons]
   ·rw[dbl,if_neg hc,List.cons_append,fv hc,ih]
    simp only[Option.map_some,List.length_cons]
 unfold cr
 have e1:((aR u++r)[0]?).getD 0=39:=rfl
 have e2:(aR u++r).drop (0+1)=dbl u++([39]++r):=by show dbl u++[39]++r=_;simp
 rw[e1,e2,hq]
 simp only
 rw[if_neg (by omega),jB]
 congr 2
 omega
theorem Fv {w:List UInt8}(hw:w.map upB=w):bv (w++r) 0 w=true:=by
 unfold bv
 rw[List.drop_zero,List.take_left' rfl,hw]
 simp
theorem Ph: ∀w∈ce,w.map upB=w:=by decide
theorem tG: ∀w∈ce,ah (hd (w.drop 1))=false∧hd w=46∧w≠[]∧w.drop 1≠[]:=by decide
theorem sJ {w:List UInt8}(hw:w∈ce):rd (w++r)= .ok (cz w,w.length)∧dk false (w++r) 0=true:=by
 obtain⟨h1,h2,h3,h4⟩:=tG w hw
 obtain⟨k1,k2,k3,k4⟩:=eZ (gx w hw) (Fv (r:=r) (Ph w hw))
 have hok:dk false (w++r) 0=true:=by
  unfold dk
  rw[k3,k2]
  rw[gy]at hw
  simp only[List.mem_append,List.mem_cons,List.not_mem_nil,or_false]at hw
  rcases hw with hw|hw|hw
  ·have:bT.contains w=true:=by simpa using hw
   rw[this];rfl
  ·rw[decide_eq_true hw];simp
  ·rw[decide_eq_true hw];simp
 refine⟨?_,hok⟩
 have e2:ah (hd ((w++r).drop 1))=false:=by
  have:(w++r).drop 1=w.drop 1++r:=by
   cases w with
   |nil=>exact absurd rfl h3
   |cons c t=>rfl
  rw[this,dc h4];exact h1
 rw[Kr (by rw[dc h3];exact h2) e2,hok,if_pos rfl,k2,k4,Nat.zero_add]
theorem wk: ∀w∈bm,(∃c,w=[c]∧sN c=true)∨(∃c d,w=[c,d]∧sN c=true∧opC c (some d) 0= .ok (⟨2,0,w⟩,2)):=by
 intro w hw
 simp only[bm,List.mem_cons,List.not_mem_nil,or_false]at hw
 rcases hw with rfl|rfl|rfl|rfl|rfl|rfl|rfl|rfl|rfl|rfl|rfl|rfl|rfl
 ·exact Or.inr ⟨_,_,rfl,rfl,rfl⟩
 ·exact Or.inr ⟨_,_,rfl,rfl,rfl⟩
 ·exact Or.inr ⟨_,_,rfl,rfl,rfl⟩
 all_goals exact Or.inl ⟨_,rfl,rfl⟩
end
end Go.Abs
set_option linter.unusedVariables false
set_option linter.unusedSimpArgs false
namespace Go.Abs
open Go Go.Proofs
def src (t:Tok)(x:List UInt8):Prop:=x=t.text∨(t.text=48::x∧hd x=46)
theorem fo {t:Tok}{x:List UInt8}(h:ah (hd t.text)=false)(hx:src t x):x=t.text:=by
 rcases hx with h1|⟨h1,_⟩
 ·exact h1
 ·rw[h1]at h;exact absurd h (by rw[eP];decide)
theorem ES {a x:List UInt8}(h:eo a=true)(hx:src ⟨1,0,a⟩ x):x=a:=by
 rcases hx with h1|⟨h1,h2⟩
 ·exact h1
 ·obtain⟨_,f2,_⟩:=dS h
  simp only at h1
  cases x with
  |nil=>cases h2
  |cons c t=>
   have h3:c=46:=h2
   have:=f2 c (by rw[h1];simp)
   rw[h3]at this
   exact absurd this (by decide)
section
variable {W P:List UInt8}{ty p:Int}
theorem p9 {x:List UInt8}(h:RealOK W P ty p)(hx:src ⟨1,ty,ba W P ty p⟩ x): ∃W',ly W W'∧x=W'++46::(P++bj ty p):=by
 rcases hx with h1|⟨h1,h2⟩
 ·exact⟨W,Or.inl rfl,h1⟩
 ·simp only at h1
  refine⟨[],Or.inr ⟨?_,rfl⟩,?_⟩
  all_goals
   unfold ba at h1
   have hW:=dR h.wl
   cases hw:W with
   |nil=>exact absurd hw hW
   |cons c w=>
    rw[hw,List.cons_append]at h1
    injection h1 with h3 h4
    cases w with
    |nil=>first|(rw[h3];done)|(rw[List.nil_append]at h4;rw[←h4];rfl)
    |cons d w=>
     rw[←h4]at h2
     have h5:d=46:=h2
     have:=h.wd d (by rw[hw];simp)
     rw[h5]at this
     exact absurd this (by decide)
end
theorem jZ {t:Tok}(h:VT t):t.text≠[]∧hd t.text≠32:=by
 cases h with
 |name h=>
  obtain⟨_,h2,_,_,h5⟩:=ed h
  refine⟨h5,fun e=> ?_⟩
  simp only at e
  rw[e]at h2;exact absurd h2 (by decide)
 |int h _=>
  obtain⟨_,_,_,h4,h5⟩:=dS h
  refine⟨h4,fun e=> ?_⟩
  simp only at e
  rw[e]at h5;exact absurd h5 (by decide)
 |real h=>
  rename_i W P ty p
  have hW:=dR h.wl
  refine⟨by show ba W P ty p≠[];unfold ba;simp,fun e=> ?_⟩
  have e':hd (W++46::(P++bj ty p))=32:=e
  rw[dc hW]at e'
  cases W with
  |nil=>exact hW rfl
  |cons c w=>
   have:=h.wd c (by simp)
   rw[show c=32 from e']at this
   exact absurd this (by decide)
 |logic h=>rcases h with rfl|rfl<;>decide
 |chars h1 h2=>exact⟨by simp[aR],by show (39:UInt8)≠32;decide⟩
 |word h=>
  rename_i a
  exact(by decide: ∀w∈bT,w≠[]∧hd w≠32) a h
 |sign h=>
  rename_i a
  exact(by decide: ∀w∈bm,w≠[]∧hd w≠32) a h
theorem KM {t:Tok}{x:List UInt8}(h:VT t)(hx:src t x):x≠[]∧hd x≠32:=by
 rcases hx with rfl|⟨_,h2⟩
 ·exact jZ h
 ·refine⟨?_,by rw[h2];decide⟩
  rintro rfl
  exact absurd h2 (by decide)
theorem BI {t:Tok}(h:VT t)(hd0:ah (hd t.text)=true):(eo t.text=true∧ ∀b∈t.text,ah b=true)∨ ∃W P ty p,RealOK W P ty p∧t.text=W++46::(P++bj ty p):=by
 cases h with
 |name h=>exact absurd (ed h).2.1 (by rw[mg hd0];simp)
 |int h _=>exact Or.inl ⟨h,(dS h).2.1⟩
 |real h=>exact Or.inr ⟨_,_,_,_,h,rfl⟩
 |logic h=>rcases h with rfl|rfl<;>exact absurd hd0 (by decide)
 |chars h1 h2=>exact absurd hd0 (show ¬ah 39=true by decide)
 |word h=>exact absurd hd0 (by rename_i a;have:=(by decide: ∀w∈bT,ah (hd w)=false) a h;simp[this])
 |sign h=>exact absurd hd0 (by rename_i a;have:=(by decide: ∀w∈bm,ah (hd w)=false) a h;simp[this])
theorem QP {t:Tok}(h:VT t)(hd0:aU (hd t.text)=true):t.kind=0∧lC t.text=true:=by
 cases h with
 |name h=>exact⟨rfl,h⟩
 |int h _=>exact absurd hd0 (by rw[mg (dS h).2.2.2.2];simp)
 |real h=>
  rename_i W P ty p
  have hW:=dR h.wl
  have e:aU (hd (W++46::(P++bj ty p)))=true:=hd0
  rw[dc hW]at e
  cases W with
  |nil=>exact absurd rfl hW
  |cons c w=>exact absurd e (by rw[eP,mg (h.wd c (by simp))];simp)
 |logic h=>rcases h with rfl|rfl<;>exact absurd hd0 (by decide)
 |chars h1 h2=>exact absurd hd0 (show ¬aU 39=true by decide)
 |word h=>exact absurd hd0 (by rename_i a;have:=(by decide: ∀w∈bT,aU (hd w)=false) a h;simp[this])
 |sign h=>exact absurd hd0 (by rename_i a;have:=(by decide: ∀w∈bm,aU (hd w)=false) a h;simp[this])
theorem QN {t:Tok}(h:VT t)(hd0:hd t.text=46):t.text∈ce:=by
 cases h with
 |name h=>exact absurd (ed h).2.1 (by simp only at hd0;rw[hd0];decide)
 |int h _=>exact absurd (dS h).2.2.2.2 (by simp only at hd0;rw[hd0];decide)
 |real h=>
  rename_i W P ty p
  have hW:=dR h.wl
  have e:hd (W++46::(P++bj ty p))=46:=hd0
  rw[dc hW]at e
  cases W with
  |nil=>exact absurd rfl hW
  |cons c w=>exact absurd (h.wd c (by simp)) (by rw[show c=46 from e];decide)
 |logic h=>exact lm (by simpa using h)
 |chars h1 h2=>exact absurd hd0 (by show (39:UInt8)≠46;decide)
 |word h=>exact jo h
 |sign h=>rename_i a;exact absurd hd0 ((by decide: ∀w∈bm,hd w≠46) a h)
theorem M0 {t:Tok}(h:VT t)(hd0:hd t.text=39): ∃u,t.text=aR u:=by
 cases h with
 |name h=>exact absurd (ed h).2.1 (by simp only at hd0;rw[hd0];decide)
 |int h _=>exact absurd (dS h).2.2.2.2 (by simp only at hd0;rw[hd0];decide)
 |real h=>
  rename_i W P ty p
  have hW:=dR h.wl
  have e:hd (W++46::(P++bj ty p))=39:=hd0
  rw[dc hW]at e
  cases W with
  |nil=>exact absurd rfl hW
  |cons c w=>exact absurd (h.wd c (by simp)) (by rw[show c=39 from e];decide)
 |logic h=>rcases h with rfl|rfl<;>exact absurd hd0 (by decide)
 |chars h1 h2=>exact⟨_,rfl⟩
 |word h=>rename_i a;exact absurd hd0 ((by decide: ∀w∈bT,hd w≠39) a h)
 |sign h=>rename_i a;exact absurd hd0 ((by decide: ∀w∈bm,hd w≠39) a h)
theorem MC {v:List UInt8}{t:Tok}{e:Nat}(h:rd v= .ok (t,e))(hk:t.kind=0):t.text.length≤v.length:=by
 by_cases hl:aU (hd v)=true
 ·rw[wa hl]at h
  split at h
  ·cases h
  ·injection h with h
   injection h with h _
   subst h
   show ((v.takeWhile aY).map upB).length≤v.length
   rw[List.length_map]
   exact(List.takeWhile_prefix aY).length_le
 ·exfalso
  unfold rd bI at h
  rw[show (v[0]?).getD 0=hd v from rfl,if_neg hl]at h
  have num: ∀q:Except Int (Tok×Nat),(∀x,q= .ok x→x.1.kind≠0)→fX (noK q)≠ .ok (t,e):=by
   intro q hq e1
   rw[eu]at e1
   exact hq _ e1 hk
  split at h
  ·refine num _ (fun x hx=> ?_) h
   unfold bO at hx
   simp only at hx
   split at hx
   ·split at hx
    ·rename_i t' ht
     injection hx with hx
     subst hx
     unfold bU at ht
     split at ht
     ·cases ht
     ·injection ht with ht;subst ht;show (1:Int)≠0;decide
    ·cases hx
   ·rw[(ko hx).1];decide
  ·split at h
   ·split at h
    ·injection h with h
     injection h with h _
     rw[←h]at hk
     unfold cz at hk
     split at hk
     ·exact absurd hk (show (1:Int)≠0 by decide)
     ·exact absurd hk (show (2:Int)≠0 by decide)
    ·cases h
   ·split at h
    ·rw[fD]at h
     unfold cr at h
     split at h
     ·cases h
     ·split at h
      ·cases h
      ·injection h with h
       injection h with h _
       rw[←h]at hk
       exact absurd hk (show (1:Int)≠0 by decide)
    ·refine num _ (fun x hx=> ?_) h
     unfold dl at hx
     simp only at hx
     split at hx
     ·injection hx with hx;subst hx;show (2:Int)≠0;decide
     ·split at hx
      ·injection hx with hx;subst hx;show (2:Int)≠0;decide
      ·split at hx
       ·injection hx with hx;subst hx;show (2:Int)≠0;decide
       ·split at hx
        ·injection hx with hx;subst hx;show (2:Int)≠0;decide
        ·cases hx
theorem On {u:List UInt8}{t t2:Tok}(h0:hd u≠32)(hl:Lex u [t,t2]): ∃e,rd u= .ok (t,e)∧e<u.length∧(t2.kind=0→t2.text.length+e≤u.length):=by
 cases hl with
 |cons h1 h2 h3 h4=>
  rename_i v e
  have hb:aF u=0:=by
   cases u with
   |nil=>rfl
   |cons c r=>unfold aF;rw[if_neg (show c≠32 from h0)]
  rw[hb,List.drop_zero]at h1
  subst h1
  refine⟨e,h3,?_⟩
  cases h4 with
  |cons k1 k2 k3 k4=>
   rename_i w e2
   have hw:w.length≤u.length-e:=by rw[←k1,List.length_drop,List.length_drop];omega
   have hw0:w.length≠0:=fun e=>k2 (List.eq_nil_of_length_eq_zero e)
   refine⟨by omega,fun hk=> ?_⟩
   have:=MC k3 hk
   omega
def oL (t t2:Tok):Prop:=t.kind=1∧(t.type=0∨(t.type=1∧(69:UInt8) ∉ t.text))∧(t2.text=[69]∨t2.text=[68])
theorem J9 {t2:Tok}(h2:VT t2)(hdd:ah (hd t2.text)=false)(hs: ¬(t2.text=[69]∨t2.text=[68])):
  (∀r,(aL false (t2.text++r) 0).2.2.2=false)∨ ∃c D r,t2.kind=0∧t2.text=c::(D++r)∧(c=69∨c=68)∧D≠[]∧(∀b∈D,ah b=true)∧ah (hd r)=false:=by
 by_cases hl:aU (hd t2.text)=true
 ·obtain⟨hk,hc⟩:=QP h2 hl
  obtain⟨_,_,f3,f4,f5⟩:=ed hc
  obtain⟨c,q,hcq⟩: ∃c q,t2.text=c::q:=by
   cases h:t2.text with
   |nil=>exact absurd h f5
   |cons c q=>exact⟨c,q,rfl⟩
  rw[hcq]at f3 f4 hs ⊢
  have hup:lG c=false:=by
   have:=(kG (c::q)).1 f4
   rw[List.any_cons,Bool.or_eq_false_iff]at this
   exact this.1
  by_cases hED:c=69∨c=68
  ·cases q with
   |nil=>exact absurd (by rcases hED with rfl|rfl<;>simp) hs
   |cons d q=>
    have hdp:=f3 d (by simp)
    by_cases hdg:ah d=true
    ·refine Or.inr ⟨c,(d::q).takeWhile ah,(d::q).dropWhile ah,hk,by rw[List.takeWhile_append_dropWhile],hED,?_,dy _,?_⟩
     ·rw[List.takeWhile_cons,hdg];simp
     ·cases hq:(d::q).dropWhile ah with
      |nil=>rfl
      |cons x y=>
       have:=List.head_dropWhile_not ah (l:=d::q) (by rw[hq];simp)
       simp only[hq,List.head_cons]at this
       exact this
    ·left
     intro r
     have n43:d≠43:=by rintro rfl;exact absurd hdp (by decide)
     have n45:d≠45:=by rintro rfl;exact absurd hdp (by decide)
     exact LB (by simpa using hdg) n43 n45
  ·left
   intro r
   refine pH ⟨?_,?_,?_,?_⟩<;>rw[List.cons_append,eP]
   ·exact fun e=>hED (Or.inl e)
   ·rintro rfl;exact absurd hup (by decide)
   ·exact fun e=>hED (Or.inr e)
   ·rintro rfl;exact absurd hup (by decide)
 ·left
  intro r
  refine pH ?_
  rw[dc (jZ h2).1]
  refine⟨?_,?_,?_,?_⟩<;>(intro e;rw[e]at hl;exact hl (by decide))
end Go.Abs
set_option linter.unusedVariables false
set_option linter.unusedSimpArgs false
namespace Go.Abs
open Go Go.Proofs
def m5 (t t2:Tok):Prop:= ∃k,k≤1∧(k=1→ ∃q,t2.text=48::46::q)∧ ∀x r,src t x→rd (x++(t2.text++r))= .ok (t,x.length+k)
theorem KJ {t w:List UInt8}(h:ec t=some w):4≤w.length:=by
 unfold ec at h
 repeat' split at h
 all_goals first|(injection h with h;subst h;decide)|cases h
theorem Qy {c:UInt8}{d:Option UInt8}{e:Nat}(h:opC c d 0= .ok (⟨2,0,[c]⟩,e)):e=1:=by
 unfold opC at h
 split at h
 ·rename_i w hw
  injection h with h
  injection h with h _
  injection h with _ _ h
  have:=KJ hw
  rw[h]at this
  simp at this
 ·split at h
  ·injection h with h
   injection h with h _
   injection h with _ _ h
   simp at h
  ·split at h
   ·injection h with h
    injection h with _ h
    omega
   ·split at h
    ·injection h with h
     injection h with _ h
     omega
    ·cases h
theorem Jn {a:List UInt8}{t2:Tok}(h:a∈bm)(h2:VT t2){e:Nat}(he:rd (a++t2.text)= .ok (⟨2,0,a⟩,e)):m5 ⟨2,0,a⟩ t2:=by
 have hx: ∀x,src ⟨2,0,a⟩ x→x=a:=fun x=>fo ((by decide: ∀w∈bm,ah (hd w)=false) a h)
 refine⟨0,by omega,by omega,fun x r hxs=> ?_⟩
 rw[hx x hxs]
 rcases wk a h with⟨c,rfl,hc⟩|⟨c,d,rfl,hc,ho⟩
 ·have h0:=(jZ h2).1
  have hg:(t2.text++r)[0]? =t2.text[0]? :=by
   cases hq:t2.text with
   |nil=>exact absurd hq h0
   |cons y z=>rfl
  rw[List.singleton_append,mj hc]at he
  rw[List.singleton_append,mj hc,hg,he,Qy he]
  rfl
 ·rw[List.cons_append,mj hc]
  exact ho
theorem xN {a:List UInt8}{t t2:Tok}(h:a∈ce)(ht:t=cz a)(hx:t.text=a):m5 t t2:=by
 refine⟨0,by omega,by omega,fun x r hxs=> ?_⟩
 have:x=a:=by
  rw[←hx]
  refine fo ?_ hxs
  rw[hx,(tG a h).2.1];rfl
 rw[this,(sJ h).1,ht]
 rfl
theorem p6: ∀(u l t:List UInt8) (k:Nat),bE 39 (dbl u++39::39::l)=some (t,k)→u.length<t.length
 |[],l,t,k,h=>by
  rw[dbl,List.nil_append,eM]at h
  cases hq:bE 39 l with
  |none=>rw[hq]at h;cases h
  |some x=>
   rw[hq]at h
   simp only[Option.map_some,Option.some.injEq,Prod.mk.injEq]at h
   rw[←h.1]
   simp
 |c::r,l,t,k,h=>by
  by_cases hc:c=39
  ·subst hc
   rw[dbl,if_pos rfl,List.cons_append,List.cons_append,eM]at h
   cases hq:bE 39 (dbl r++39::39::l)with
   |none=>rw[hq]at h;cases h
   |some x=>
    rw[hq]at h
    simp only[Option.map_some,Option.some.injEq,Prod.mk.injEq]at h
    have:=p6 r l x.1 x.2 hq
    rw[←h.1]
    simp
    omega
  ·rw[dbl,if_neg hc,List.cons_append,fv hc]at h
   cases hq:bE 39 (dbl r++39::39::l)with
   |none=>rw[hq]at h;cases h
   |some x=>
    rw[hq]at h
    simp only[Option.map_some,Option.some.injEq,Prod.mk.injEq]at h
    have:=p6 r l x.1 x.2 hq
    rw[←h.1]
    simp
    omega
theorem FC {u v:List UInt8}(h:aR u=aR v):u=v:=by
 have h1:dbl u=dbl v:=by
  unfold aR at h
  simp only[List.cons_append,List.nil_append,List.cons.injEq,true_and]at h
  exact List.append_cancel_right h
 rw[←EU u,h1,EU]
theorem FL {u:List UInt8}{t2:Tok}(hu:u.length≤60)(h2:VT t2){e:Nat}(he:rd (aR u++t2.text)= .ok (⟨1,6,aR u⟩,e)):m5 ⟨1,6,aR u⟩ t2:=by
 have h39:hd t2.text≠39:=by
  intro h39
  obtain⟨u2,hu2⟩:=M0 h2 h39
  rw[hu2,uT (Or.inl rfl)]at he
  unfold cr at he
  have e1:((aR u++aR u2)[0]?).getD 0=39:=rfl
  have e2:(aR u++aR u2).drop (0+1)=dbl u++39::39::(dbl u2++[39]):=by show dbl u++[39]++([39]++dbl u2++[39])=_;simp
  rw[e1,e2]at he
  cases hq:bE 39 (dbl u++39::39::(dbl u2++[39]))with
  |none=>rw[hq]at he;cases he
  |some x=>
   rw[hq]at he
   simp only at he
   split at he
   ·cases he
   ·injection he with he
    injection he with he _
    injection he with _ _ he
    have:=p6 _ _ _ _ hq
    rw[FC he]at this
    omega
 refine⟨0,by omega,by omega,fun x r hx=> ?_⟩
 have:x=aR u:=fo (t:=⟨1,6,aR u⟩) rfl hx
 rw[this,Be hu (by rw[dc (jZ h2).1];exact h39)]
 rfl
theorem Jm {a:List UInt8}{t2:Tok}(h:lC a=true)(h2:VT t2){e:Nat}(he:rd (a++t2.text)= .ok (⟨0,0,a⟩,e)):m5 ⟨0,0,a⟩ t2:=by
 obtain⟨h1,hl,h3,h4,h5⟩:=ed h
 have hp:aY (hd t2.text)=false:=by
  cases hq:aY (hd t2.text)with
  |false=>rfl
  |true=>
   exfalso
   rw[wa (by rw[dc h5];exact hl)]at he
   split at he
   ·cases he
   ·injection he with he
    injection he with he _
    injection he with _ _ he
    have hlen:=congrArg List.length he
    rw[List.length_map]at hlen
    obtain⟨c,y,hcy⟩: ∃c y,t2.text=c::y:=by
     cases hy:t2.text with
     |nil=>rw[hy]at hq;exact absurd hq (by decide)
     |cons c y=>exact⟨c,y,rfl⟩
    rw[hcy,eP]at hq
    have hpre:a++[c] <+:(a++t2.text).takeWhile aY:=by
     rw[hcy]
     have:(a++c::y).takeWhile aY=a++(c::y).takeWhile aY:=List.takeWhile_append_of_pos h3
     rw[this,List.takeWhile_cons,hq]
     simp
    have:=hpre.length_le
    simp at this
    omega
 refine⟨0,by omega,by omega,fun x r hx=> ?_⟩
 have hx':x=a:=by
  refine fo (t:=⟨0,0,a⟩) ?_ hx
  show ah (hd a)=false
  cases hq:ah (hd a)with
  |false=>rfl
  |true=>rw[mg hq]at hl;cases hl
 rw[hx',EN h (by rw[dc (jZ h2).1];exact hp)]
 rfl
theorem LD {a:List UInt8}{t2:Tok}(h:eo a=true)(hv:valD 0 a≤2147483647)(h2:VT t2)(hs: ¬(t2.text=[69]∨t2.text=[68])){e:Nat}(he:rd (a++t2.text)= .ok (⟨1,0,a⟩,e))(hlt:e<(a++t2.text).length):m5 ⟨1,0,a⟩ t2:=by
 obtain⟨f1,f2,f3,f4,f5⟩:=dS h
 have h0:=(jZ h2).1
 rw[jq (Or.inl (by rw[dc f4];exact f5))]at he
 have hd0:ah (hd t2.text)=false:=by
  cases hq:ah (hd t2.text)with
  |false=>rfl
  |true=>
   exfalso
   rcases BI h2 hq with⟨k1,k2⟩|⟨W,P,ty,p,k1,k2⟩
   ·have hall: ∀b∈a++t2.text,ah b=true:=by
     intro b hb
     rcases List.mem_append.1 hb with hb|hb
     ·exact f2 b hb
     ·exact k2 b hb
    have:=rG (W:=a++t2.text) (y:=[]) hall (by simp[f4]) rfl (fun e=>absurd e (by decide))
    rw[List.append_nil,show (aL false [] 0).2.2.2=false from rfl,if_neg (by simp)]at this
    rw[this]at he
    split at he
    ·injection he with he
     injection he with _ he
     omega
    ·cases he
   ·have hall: ∀b∈a++W,ah b=true:=by
     intro b hb
     rcases List.mem_append.1 hb with hb|hb
     ·exact f2 b hb
     ·exact k1.wd b hb
    have := gX (W := a ++ W) (P := P) (y := bj ty p) hall k1.pd (oH k1) (by
     cases hq:bj ty p with
     |nil=>rfl
     |cons c q=>exact wt (ty:=ty) (p:=p) c q hq)
    rw[List.append_assoc,←k2]at this
    rw[this]at he
    have:=(ko he).2.1
    exact absurd this (show ¬((0:Int)=1∨(0:Int)=2)by decide)
 have hdot:hd t2.text=46→ ∀r,dk false (t2.text++r) 0=true:=fun h46 r=>(sJ (QN h2 h46)).2
 have hno: ∀r,(aL false (t2.text++r) 0).2.2.2=false:=by
  rcases J9 h2 hd0 hs with hn|⟨c,D,r,hk,hb,hc,hD,hdd,hr⟩
  ·exact hn
  ·exfalso
   have hcc:c≠46:=by rcases hc with rfl|rfl<;>decide
   have hcd:ah c=false:=by rcases hc with rfl|rfl<;>rfl
   have hE:=mF (sg:=[]) hc (Or.inl rfl) hdd hD hr
   rw[List.nil_append]at hE
   have:=rG (W:=a) (y:=t2.text) f2 f4 hd0 (by rw[hb,eP];exact fun e=>absurd e hcc)
   rw[hb,hE]at this
   rw[hb,this]at he
   simp only[if_true]at he
   have:=(ko he).2.1
   exact absurd this (show ¬((0:Int)=1∨(0:Int)=2)by decide)
 refine⟨0,by omega,by omega,fun x r hx=> ?_⟩
 rw[ES h hx,Ks h hv (by rw[dc h0];exact hd0) (by rw[dc h0];exact fun e=>hdot e r) (hno r)]
 rfl
end Go.Abs
set_option linter.unusedVariables false
set_option linter.unusedSimpArgs false
namespace Go.Abs
open Go Go.Proofs
section
variable {W P:List UInt8}{ty p:Int}
theorem jk {a b:List UInt8}(ha: ∀x∈a,ah x=true)(hb: ∀x∈b,ah x=true): ∀x∈a++b,ah x=true:=by
 intro x hx
 rcases List.mem_append.1 hx with h|h
 ·exact ha x h
 ·exact hb x h
theorem EP {W y:List UInt8}(hw: ∀b∈W,ah b=true)(h0:W≠[]):ah (hd (W++y))=true:=by
 rw[dc h0]
 cases W with
 |nil=>exact absurd rfl h0
 |cons c t=>exact hw c (by simp)
theorem Kj {P Q:List UInt8}(hP:gF P.reverse)(hQ:gF Q)(h:bh (bQ (P++Q))=P):Q=[48]:=by
 have key: ∀(c:UInt8) (r:List UInt8),Q=c::r→c≠48→False:=by
  rintro c r rfl hc
  have h1:P++[c] <+: bQ (P++c::r):=by
   have h2:P++c::r=(P++[c])++r:=by simp
   rw[h2]
   have go: ∀(n:Nat) (r:List UInt8),r.length=n→P++[c] <+: bQ (P++[c]++r):=by
    intro n
    induction n with
    |zero=>
     intro r hr
     rw[List.eq_nil_of_length_eq_zero hr,List.append_nil,tF hc]
     exact List.prefix_refl _
    |succ n ih=>
     intro r hr
     rcases List.eq_nil_or_concat r with h3|⟨q,x,h3⟩
     ·rw[h3]at hr;cases hr
     ·rw[List.concat_eq_append]at h3
      rw[h3]at hr ⊢
      rw[←List.append_assoc]
      by_cases hx:x=48
      ·rw[hx,wu];exact ih q (by simpa using hr)
      ·rw[tF hx,List.append_assoc]
       exact List.prefix_append _ _
   exact go r.length r rfl
  have h2:=h1.length_le
  have h3:bQ (P++c::r)≠[]:=fun e=>by rw[e]at h2;simp at h2
  unfold bh at h
  rw[if_neg h3]at h
  rw[h]at h2
  simp at h2
  omega
 rcases hQ with h1|⟨c,r,h1,h2⟩
 ·obtain⟨c,rfl⟩:=List.length_eq_one_iff.1 h1
  by_cases hc:c=48
  ·rw[hc]
  ·exact absurd (key c [] rfl hc) id
 ·exact absurd (key c r h1 h2) id
theorem MZ {Q:List UInt8}(hd: ∀b∈Q,ah b=true)(hQ:gF Q)(h:valD 0 Q=0):Q=[48]:=by
 rcases hQ with h1|⟨c,r,h1,h2⟩
 ·obtain⟨c,rfl⟩:=List.length_eq_one_iff.1 h1
  have h3:=cm.1 (hd c (by simp))
  have h4:valD 0 [c]=0*10+(c.toNat-48):=by rw[dp,ib]
  rw[h]at h4
  have:c=48:=UInt8.toNat.inj (by show c.toNat=48;omega)
  rw[this]
 ·have:=BG (c:=c) (r:=r) (by rw[←h1];exact hd) h2
  rw[←h1]at this
  omega
theorem FM {t2:Tok}(h:RealOK W P 1 0)(h2:VT t2)(hs: ¬(t2.text=[69]∨t2.text=[68])){e:Nat}(he:rd (ba W P 1 0++t2.text)= .ok (⟨1,1,ba W P 1 0⟩,e))
  (hlt:e<(ba W P 1 0++t2.text).length) (hn:t2.kind=0→t2.text.length+e≤(ba W P 1 0++t2.text).length):m5 ⟨1,1,ba W P 1 0⟩ t2:=by
 have h0:=(jZ h2).1
 have hW0:=dR h.wl
 have hT:ba W P 1 0=W++46::P:=by unfold ba bj;rw[if_neg (by decide),if_neg (by simp),List.append_nil]
 have hsplit: ∀y,ba W P 1 0++y=W++46::(P++y):=fun y=>by rw[hT];simp
 have hl0:(ba W P 1 0).length=W.length+1+P.length:=by rw[hT];simp;omega
 rw[hsplit]at he hlt hn
 simp only[List.length_append,List.length_cons]at hlt hn
 rw[jq (Or.inl (EP h.wd hW0))]at he
 have hsrc: ∀x,src ⟨1,1,ba W P 1 0⟩ x→ ∃W',ly W W'∧x=W'++46::P:=by
  intro x hx
  obtain⟨W',k1,k2⟩:=p9 h hx
  exact⟨W',k1,by rw[k2];unfold bj;rw[if_neg (by decide),if_neg (by simp),List.append_nil]⟩
 cases hdg:ah (hd t2.text)with
 |true=>
  rcases BI h2 hdg with⟨k1,k2⟩|⟨W2,P2,ty2,p2,k1,k2⟩
  ·exfalso
   have:=gX (W:=W) (P:=P++t2.text) (y:=[]) h.wd (jk h.pd k2) (by simp[h0]) rfl
   rw[List.append_nil]at this
   rw[this]at he
   have:=(ko he).2.2
   simp only[show (aL false [] 0).2.2.2=false from rfl,Bool.false_eq_true,if_false,List.length_append]at this
   omega
  ·have hnd:ah (hd (46::(P2++bj ty2 p2)))=false:=rfl
   have hex: ∀y,(aL false (46::y) 0).2.2.2=false:=fun y=>pH (by rw[eP];decide)
   have:=gX (W:=W) (P:=P++W2) (y:=46::(P2++bj ty2 p2)) h.wd (jk h.pd k1.wd) (by simp[oH h]) hnd
   rw[List.append_assoc,←k2,hex]at this
   rw[this]at he
   unfold real at he
   split at he
   ·cases he
   ·injection he with he
    injection he with he _
    unfold c8 ep at he
    simp only[Bool.false_eq_true,and_false,if_false,if_true]at he
    injection he with _ _ he
    have hw:=(l9 h (Or.inl rfl)).1
    unfold dY at he
    rw[hw,hT]at he
    have he':bh (bQ (P++W2))=P:=by
     have:W++46::bh (bQ (P++W2))=W++46::P:=by rw[←he];simp
     have:=List.append_cancel_left this
     injection this
    have hW2:=Kj h.pl k1.wl he'
    refine⟨1,Nat.le_refl 1,fun _=>⟨P2++bj ty2 p2,by rw[k2,hW2];rfl⟩,fun x r hx=> ?_⟩
    obtain⟨W',k3,k4⟩:=hsrc x hx
    have hx':x++(t2.text++r)=W'++46::((P++[48])++(46::(P2++(bj ty2 p2++r)))):=by rw[k4,k2,hW2];simp
    rw[hx',uU h k3 (Or.inr rfl) rfl (hex _),k4]
    congr 2
    simp
    omega
 |false=>
  have hno: ∀r,(aL false (t2.text++r) 0).2.2.2=false:=by
   rcases J9 h2 hdg hs with hh|⟨c,D,r,hk,hb,hc,hD,hdd,hr⟩
   ·exact hh
   ·exfalso
    have hE:=mF (sg:=[]) hc (Or.inl rfl) hdd hD hr
    rw[List.nil_append]at hE
    have:=gX (W:=W) (P:=P) (y:=t2.text) h.wd h.pd (oH h) hdg
    rw[hb,hE]at this
    rw[hb,this]at he
    simp only[if_true]at he
    have h3:=(ko he).2.2
    have h4:=hn hk
    simp only[List.length_nil]at h3
    omega
  refine⟨0,by omega,by omega,fun x r hx=> ?_⟩
  obtain⟨W',k3,k4⟩:=hsrc x hx
  have hx':x++(t2.text++r)=W'++46::(P++(t2.text++r)):=by rw[k4];simp
  rw[hx',uU h k3 (Or.inl rfl) (by rw[dc h0];exact hdg) (hno r),k4]
  congr 2
  simp
  omega
theorem NT {sg D:List UInt8}(hsg:sg=[]∨sg=[45])(hd: ∀b∈D,ah b=true)(h0:D≠[])(hl:D.length≤10):cg (sg++D)=if sg=[]then((valD 0 D:Nat):Int)else -((valD 0 D:Nat):Int):=by
 unfold cg
 rcases hsg with rfl|rfl
 ·rw[List.nil_append,d6 hd h0 hl,if_pos rfl]
 ·rw[List.singleton_append,pz hd h0 hl,if_neg (by simp)]
theorem FN {t2:Tok}(h:RealOK W P ty p)(hp:ty=2∨p≠0)(h2:VT t2){e:Nat}(he:rd (ba W P ty p++t2.text)= .ok (⟨1,ty,ba W P ty p⟩,e))
  (hlt:e<(ba W P ty p++t2.text).length):m5 ⟨1,ty,ba W P ty p⟩ t2:=by
 have h0:=(jZ h2).1
 have hW0:=dR h.wl
 have hsplit: ∀y,ba W P ty p++y=W++46::(P++(bj ty p++y)):=fun y=>by unfold ba;simp
 rw[hsplit]at he hlt
 simp only[List.length_append,List.length_cons]at hlt
 cases hdg:ah (hd t2.text)with
 |false=>
  refine⟨0,by omega,by omega,fun x r hx=> ?_⟩
  obtain⟨W',k3,k4⟩:=p9 h hx
  have hx':x++(t2.text++r)=W'++46::(P++(bj ty p++([]++(t2.text++r)))):=by rw[k4];simp
  rw[hx',uV h hp k3 (Or.inl rfl) (by rw[dc h0];exact hdg),k4]
  congr 2
  simp
  omega
 |true=>
  rw[jq (Or.inl (EP h.wd hW0))]at he
  obtain⟨sg,D,h1,hsg,h3,h4,h5,h6,h7⟩:=vD p
  obtain⟨L,hL,hT⟩: ∃L,((L=68∧ty=2)∨(L=69∧ty=1∧p≠0))∧bj ty p=L::(sg++D):=by
   unfold bj
   rcases h.ty with ht|ht
   ·have hp':p≠0:=hp.resolve_left (by rw[ht];decide)
    exact⟨69,Or.inr ⟨rfl,ht,hp'⟩,by rw[if_neg (by rw[ht];decide),if_pos hp',h1];rfl⟩
   ·exact⟨68,Or.inl ⟨rfl,ht⟩,by rw[if_pos ht,h1];rfl⟩
  have hLs:L=69∨L=68:=by rcases hL with h|h;exact Or.inr h.1;exact Or.inl h.1
  have hyd: ∀y,ah (hd (L::y))=false:=fun y=>by rw[eP];rcases hLs with rfl|rfl<;>rfl
  rcases BI h2 hdg with⟨k1,k2⟩|⟨W2,P2,ty2,p2,k1,k2⟩
  ·exfalso
   have hE:=mF (r:=[]) hLs hsg (jk h3 k2) (by simp[h4]) rfl
   have:=gX (W:=W) (P:=P) (y:=L::(sg++((D++t2.text)++[]))) h.wd h.pd (oH h) (hyd _)
   rw[hE]at this
   have hy:bj ty p++t2.text=L::(sg++((D++t2.text)++[])):=by rw[hT];simp
   rw[hy,this]at he
   simp only[if_true]at he
   have h8:=(ko he).2.2
   rw[hT]at hlt
   simp only[List.length_append,List.length_cons]at h8 hlt
   omega
  ·have hW2:=dR k1.wl
   have hE:=mF (r:=46::(P2++bj ty2 p2)) hLs hsg (jk h3 k1.wd) (by simp[h4]) rfl
   have:=gX (W:=W) (P:=P) (y:=L::(sg++((D++W2)++46::(P2++bj ty2 p2)))) h.wd h.pd (oH h) (hyd _)
   rw[hE]at this
   have hy:bj ty p++t2.text=L::(sg++((D++W2)++46::(P2++bj ty2 p2))):=by rw[hT,k2];simp
   rw[hy,this]at he
   simp only[if_true]at he
   unfold real at he
   split at he
   ·cases he
   ·rename_i hlong
    injection he with he
    injection he with he _
    have hl3:(D++W2).length≤3:=by
     unfold jr at hlong
     simp only[Bool.and_true,Bool.or_eq_true,decide_eq_true_eq,not_or]at hlong
     have h8:=hlong.2
     rcases hsg with rfl|rfl
     ·rw[List.nil_append,(gw (jk h3 k1.wd)).1]at h8;omega
     ·rw[(gw (jk h3 k1.wd)).2]at h8;omega
    obtain⟨v,hv⟩: ∃v,v=cg (sg++(D++W2)):=⟨_,rfl⟩
    have hvv:=NT hsg (jk h3 k1.wd) (by simp[h4]) (by omega:(D++W2).length≤10)
    rw[←hv]at hvv
    have hbd:=(dH (D++W2) 0 (jk h3 k1.wd)).2
    have h10:10^(D++W2).length≤10^3:=Nat.pow_le_pow_right (by omega) hl3
    have hr1: -999≤v∧v≤999:=by
     rw[hvv]
     split<;>omega
    have hval:valD 0 (D++W2)=valD 0 D*10^W2.length+valD 0 W2:=by
     rw[←oU]
     unfold valD
     rw[List.foldl_append]
    have hW10:10≤10^W2.length:=by
     have:1≤W2.length:=by cases hq:W2 with|nil=>exact absurd hq hW2|cons c r=>simp
     calc 10=10^1:=rfl
      _≤10^W2.length:=Nat.pow_le_pow_right (by omega) this
    have hmul:valD 0 D*10≤valD 0 D*10^W2.length:=Nat.mul_le_mul_left _ hW10
    have hvp:v=p:=by
     unfold c8 ep at he
     simp only[if_true,and_true]at he
     rw[←hv,p7 h (Or.inl rfl) (Or.inl rfl)]at he
     have hin:Lib.itoa v=Lib.itoa p→v=p:=fun e=>by rw[←q9 hr1.1 hr1.2,e,q9 h.p1 h.p2]
     rcases hL with⟨rfl,ht⟩|⟨rfl,ht,hp0⟩
     ·subst ht
      rw[if_pos rfl]at he
      injection he with _ _ he
      unfold ba bj at he
      rw[if_pos rfl]at he
      apply hin
      have:(W++[46]++P++[68])++Lib.itoa v=(W++[46]++P++[68])++Lib.itoa p:=by rw[he];simp
      exact List.append_cancel_left this
     ·subst ht
      rw[if_neg (by decide)]at he
      split at he
      ·injection he with _ _ he
       unfold ba bj at he
       rw[if_neg (by decide),if_pos hp0]at he
       have:=congrArg List.length he
       simp at this
      ·injection he with _ _ he
       unfold ba bj at he
       rw[if_neg (by decide),if_pos hp0]at he
       apply hin
       have:(W++[46]++P++[69])++Lib.itoa v=(W++[46]++P++[69])++Lib.itoa p:=by rw[List.append_assoc (W++[46]++P),he];simp
       exact List.append_cancel_left this
    have hp0:p=0∧valD 0 W2=0:=by
     rcases hsg with rfl|rfl
     ·have h8:=h6 rfl
      rw[if_pos rfl]at hvv
      omega
     ·have h8:=h5 rfl
      rw[if_neg (by simp)]at hvv
      omega
    have hz:=MZ k1.wd k1.wl hp0.2
    refine⟨1,Nat.le_refl 1,fun _=>⟨P2++bj ty2 p2,by rw[k2,hz];rfl⟩,fun x r hx=> ?_⟩
    obtain⟨W',k3,k4⟩:=p9 h hx
    have hx':x++(t2.text++r)=W'++46::(P++(bj ty p++([48]++(46::(P2++(bj ty2 p2++r)))))):=by rw[k4,k2,hz];simp
    rw[hx',uV h hp k3 (Or.inr ⟨rfl,hp0.1⟩) rfl,k4]
    congr 2
    simp
    omega
end
theorem LE {t t2:Tok}(h:VT t)(h2:VT t2)(hs: ¬oL t t2)(hl:Lex (t.text++t2.text) [t,t2]):m5 t t2:=by
 obtain⟨e,h3,h4,h5⟩:=On (by rw[dc (jZ h).1];exact(jZ h).2) hl
 cases h with
 |name k=>exact Jm k h2 h3
 |int k1 k2=>exact LD k1 k2 h2 (fun e=>hs ⟨rfl,Or.inl rfl,e⟩) h3 h4
 |real k=>
  rename_i W P ty p
  by_cases hp:ty=2∨p≠0
  ·exact FN k hp h2 h3 h4
  ·have ht:ty=1:=k.ty.resolve_right (fun e=>hp (Or.inl e))
   have hp0:p=0:=Classical.byContradiction fun e=>hp (Or.inr e)
   subst ht hp0
   refine FM k h2 (fun e=>hs ⟨rfl,Or.inr ⟨rfl,?_⟩,e⟩) h3 h4 h5
   show (69:UInt8) ∉ ba W P 1 0
   unfold ba bj
   rw[if_neg (by decide),if_neg (by simp),List.append_nil]
   intro hm
   rcases List.mem_append.1 hm with hm|hm
   ·exact absurd (k.wd 69 hm) (by decide)
   ·rcases List.mem_cons.1 hm with hm|hm
    ·exact absurd hm (by decide)
    ·exact absurd (k.pd 69 hm) (by decide)
 |logic k=>
  rename_i a
  refine xN (a:=a) (lm (by simpa using k)) ?_ rfl
  unfold cz
  rw[if_pos k]
 |chars k1 k2=>exact FL k2 h2 h3
 |word k=>
  rename_i a
  refine xN (a:=a) (jo k) ?_ rfl
  have:=kQ a k
  unfold cz
  rw[if_neg (fun e=>e.elim this.1 this.2)]
 |sign k=>exact Jn k h2 h3
end Go.Abs
set_option linter.unusedVariables false
set_option linter.unusedSimpArgs false
set_option maxRecDepth 100000
namespace Go.Abs
open Go Go.Proofs
instance (t t2:Tok):Decidable (oL t t2):=by unfold oL;infer_instance
def apB (t t2:Tok):Prop:=oL t t2∨ ¬((bc false (t.text++t2.text)).e=0∧ct false (t.text++t2.text)=[t,t2])
instance (t t2:Tok):Decidable (apB t t2):=by unfold apB;infer_instance
def fA:Tok→List Tok→List UInt8
 |_,[]=>[]
 |t,t2::l=>(if apB t t2 then [32]else [])++(t2.text++fA t2 l)
def sx:List Tok→List UInt8
 |[]=>[]
 |t::l=>t.text++fA t l
theorem Hv: ∀w∈bm,∀c,w=[c]→opC c none 0= .ok (⟨2,0,[c]⟩,1)∧opC c (some 32) 0= .ok (⟨2,0,[c]⟩,1):=by
 intro w hw c hc
 subst hc
 simp only[bm,List.mem_cons,List.not_mem_nil,or_false,List.cons.injEq,and_true,reduceCtorEq,and_false,false_or]at hw
 rcases hw with rfl|rfl|rfl|rfl|rfl|rfl|rfl|rfl|rfl|rfl<;>exact⟨rfl,rfl⟩
theorem EO {t:Tok}{x r:List UInt8}(h:VT t)(hx:src t x)(hr:r=[]∨ ∃q,r=32::q):rd (x++r)= .ok (t,x.length):=by
 have hh:hd r=0∨hd r=32:=by
  rcases hr with rfl|⟨q,rfl⟩
  ·exact Or.inl rfl
  ·exact Or.inr rfl
 have hpar:aY (hd r)=false:=by rcases hh with h|h<;>rw[h]<;>rfl
 have hdig:ah (hd r)=false:=by rcases hh with h|h<;>rw[h]<;>rfl
 have h39:hd r≠39:=by rcases hh with h|h<;>rw[h]<;>decide
 have h46:hd r≠46:=by rcases hh with h|h<;>rw[h]<;>decide
 have hexp:(aL false r 0).2.2.2=false:=pH (by rcases hh with h|h<;>rw[h]<;>decide)
 cases h with
 |name k=>
  rename_i a
  have:x=a:=by
   refine fo (t:=⟨0,0,a⟩) ?_ hx
   have hl:=(ed k).2.1
   show ah (hd a)=false
   cases hq:ah (hd a)with
   |false=>rfl
   |true=>rw[mg hq]at hl;cases hl
  rw[this];exact EN k hpar
 |int k1 k2=>rw[ES k1 hx];exact Ks k1 k2 hdig (fun e=>absurd e h46) hexp
 |real k=>
  rename_i W P ty p
  obtain⟨W',k3,k4⟩:=p9 k hx
  by_cases hp:ty=2∨p≠0
  ·have e:x++r=W'++46::(P++(bj ty p++([]++r))):=by rw[k4];simp
   rw[e,uV k hp k3 (Or.inl rfl) hdig,k4]
   congr 2
   simp
   omega
  ·have ht:ty=1:=k.ty.resolve_right (fun e=>hp (Or.inl e))
   have hp0:p=0:=Classical.byContradiction fun e=>hp (Or.inr e)
   subst ht hp0
   have hT:bj 1 0=[]:=by unfold bj;rw[if_neg (by decide),if_neg (by simp)]
   rw[hT,List.append_nil]at k4
   have e:x++r=W'++46::(P++r):=by rw[k4];simp
   rw[e,uU k k3 (Or.inl rfl) hdig hexp,k4]
   congr 2
   simp
   omega
 |logic k=>
  rename_i a
  have:x=a:=fo (t:=⟨1,5,a⟩) (by rcases k with rfl|rfl<;>rfl) hx
  rw[this,(sJ (lm (by simpa using k))).1]
  unfold cz
  rw[if_pos k]
 |chars k1 k2=>
  rename_i u
  have:x=aR u:=fo (t:=⟨1,6,aR u⟩) rfl hx
  rw[this];exact Be k2 h39
 |word k=>
  rename_i a
  have:x=a:=fo (t:=⟨2,0,a⟩) ((by decide: ∀w∈bT,ah (hd w)=false) a k) hx
  have hn:=kQ a k
  rw[this,(sJ (jo k)).1]
  unfold cz
  rw[if_neg (fun e=>e.elim hn.1 hn.2)]
 |sign k=>
  rename_i a
  have:x=a:=fo (t:=⟨2,0,a⟩) ((by decide: ∀w∈bm,ah (hd w)=false) a k) hx
  rw[this]
  rcases wk a k with⟨c,rfl,hc⟩|⟨c,d,rfl,hc,ho⟩
  ·rw[List.singleton_append,mj hc]
   have:=Hv [c] k c rfl
   rcases hr with rfl|⟨q,rfl⟩
   ·exact this.1
   ·exact this.2
  ·rw[List.cons_append,mj hc]
   exact ho
theorem JI {u:List UInt8}{l:List Tok}(h:Lex u l):Lex (32::u) l:=by
 have hb:aF (32::u)=aF u+1:=by rw[aF,if_pos rfl]
 cases h with
 |nil h=>exact .nil (by rw[hb,List.drop_succ_cons];exact h)
 |cons h1 h2 h3 h4=>exact .cons (by rw[hb,List.drop_succ_cons];exact h1) h2 h3 h4
theorem uH {u:List UInt8}{t:Tok}{e:Nat}{l:List Tok}(h0:u≠[])(h32:hd u≠32)(hr:rd u= .ok (t,e))(hl:Lex (u.drop e) l):Lex u (t::l):=by
 have hb:aF u=0:=by
  cases u with
  |nil=>rfl
  |cons c r=>unfold aF;rw[if_neg (show c≠32 from h32)]
 exact .cons (by rw[hb];rfl) h0 hr hl
theorem Nl: ∀(l:List Tok) (t:Tok) (x:List UInt8),VT t→(∀u∈l,VT u)→src t x→Lex (x++fA t l) (t::l)
 |[],t,x,h,hl,hx=>by
  obtain⟨h0,h32⟩:=KM h hx
  have hr:=EO (r:=[]) h hx (Or.inl rfl)
  rw[List.append_nil]at hr
  show Lex (x++[]) [t]
  rw[List.append_nil]
  exact uH h0 h32 hr (.nil (by rw[List.drop_length];rfl))
 |t2::l,t,x,h,hl,hx=>by
  obtain⟨h0,h32⟩:=KM h hx
  have h2:VT t2:=hl t2 (by simp)
  have hn0:x++fA t (t2::l)≠[]:=by simp[h0]
  have hn32:hd (x++fA t (t2::l))≠32:=by rw[dc h0];exact h32
  have hrest: ∀y,src t2 y→Lex (y++fA t2 l) (t2::l):=fun y hy=>Nl l t2 y h2 (fun u hu=>hl u (List.mem_cons_of_mem _ hu)) hy
  by_cases ha:apB t t2
  ·have e:fA t (t2::l)=32::(t2.text++fA t2 l):=by rw[fA,if_pos ha];rfl
   rw[e]at hn0 hn32 ⊢
   refine uH hn0 hn32 (EO h hx (Or.inr ⟨_,rfl⟩)) ?_
   rw[kb]
   exact JI (hrest _ (Or.inl rfl))
  ·have e:fA t (t2::l)=t2.text++fA t2 l:=by rw[fA,if_neg ha];rfl
   rw[e]at hn0 hn32 ⊢
   have hsp: ¬oL t t2:=fun e=>ha (Or.inl e)
   have hsc:=Classical.byContradiction fun e=>ha (Or.inr e)
   have hlx:=(sW hsc.1).2.1
   rw[hsc.2]at hlx
   obtain⟨k,k1,k2,k3⟩:=LE h h2 hsp hlx
   refine uH hn0 hn32 (k3 x _ hx) ?_
   rw[←List.drop_drop,kb]
   rcases Nat.lt_or_ge k 1 with h5|h5
   ·have:k=0:=by omega
    subst this
    exact hrest _ (Or.inl rfl)
   ·have:k=1:=by omega
    subst this
    obtain⟨q,hq⟩:=k2 rfl
    have e2:(t2.text++fA t2 l).drop 1=(46::q)++fA t2 l:=by rw[hq];rfl
    rw[e2]
    exact hrest _ (Or.inr ⟨hq,rfl⟩)
theorem LM: ∀(l:List Tok),(∀u∈l,VT u)→Lex (sx l) l
 |[],_=> .nil rfl
 |t::l,h=>Nl l t t.text (h t (by simp)) (fun u hu=>h u (List.mem_cons_of_mem _ hu)) (Or.inl rfl)
def fN (b:UInt8):Prop:=32≤b.toNat∧b.toNat≤126
theorem C5: ∀i:Fin 256,aY (UInt8.ofNat i.val)=true→32≤(UInt8.ofNat i.val).toNat∧(UInt8.ofNat i.val).toNat≤126:=by decide
theorem O1 {b:UInt8}(h:aY b=true):fN b:=by
 have:=C5 ⟨b.toNat,b.toNat_lt⟩
 unfold fN
 simpa using this (by simpa using h)
theorem KW {s:List UInt8}(h:bp s=0): ∀b∈s,fN b:=by
 unfold bp at h
 split at h
 ·cases h
 ·split at h
  ·rename_i h2;exact kx.1 h2
  ·cases h
theorem xq {s:List UInt8}(h: ∀b∈s,fN b)(hl:s.length≤1320):bp s=0:=by
 unfold bp
 rw[if_neg (by omega),if_pos (kx.2 h)]
instance (b:UInt8):Decidable (fN b):=by unfold fN;infer_instance
theorem oV {t:Tok}(h:VT t): ∀b∈t.text,fN b:=by
 cases h with
 |name k=>exact fun b hb=>O1 ((ed k).2.2.1 b hb)
 |int k1 k2=>exact fun b hb=>su ((dS k1).2.1 b hb)
 |real k=>exact KW (yj k)
 |logic k=>rcases k with rfl|rfl<;>decide
 |chars k1 k2=>exact kx.1 (vo k1)
 |word k=>rename_i a;exact(by decide: ∀w∈bT,∀b∈w,fN b) a k
 |sign k=>rename_i a;exact(by decide: ∀w∈bm,∀b∈w,fN b) a k
theorem xR: ∀(l:List Tok) (t:Tok),(∀u∈l,VT u)→ ∀b∈fA t l,fN b
 |[],t,h,b,hb=>by cases hb
 |t2::l,t,h,b,hb=>by
  unfold fA at hb
  rcases List.mem_append.1 hb with hb|hb
  ·split at hb
   ·rw[List.mem_singleton.1 hb];decide
   ·cases hb
  ·rcases List.mem_append.1 hb with hb|hb
   ·exact oV (h t2 (by simp)) b hb
   ·exact xR l t2 (fun u hu=>h u (List.mem_cons_of_mem _ hu)) b hb
theorem LJ: ∀(l:List Tok),(∀u∈l,VT u)→ ∀b∈sx l,fN b
 |[],h,b,hb=>by cases hb
 |t::l,h,b,hb=>by
  rcases List.mem_append.1 hb with hb|hb
  ·exact oV (h t (by simp)) b hb
  ·exact xR l t (fun u hu=>h u (List.mem_cons_of_mem _ hu)) b hb
theorem KA {l:List Tok}(h: ∀u∈l,VT u)(hn:l.length≤300)(hl:(sx l).length≤1320):(bc false (sx l)).e=0∧ct false (sx l)=l:=
 De (xq (LJ l h) hl) (LM l h) hn
theorem Dj: ∀i:Fin 256,(aU (UInt8.ofNat i.val)=true→aU (upB (UInt8.ofNat i.val))=true)∧(aY (UInt8.ofNat i.val)=true→aY (upB (UInt8.ofNat i.val))=true)∧lG (upB (UInt8.ofNat i.val))=false:=by decide
theorem xv (c:UInt8):(aU c=true→aU (upB c)=true)∧(aY c=true→aY (upB c)=true)∧lG (upB c)=false:=by
 have:=Dj ⟨c.toNat,c.toNat_lt⟩
 simpa using this
theorem Kq {q:UInt8}: ∀(n:Nat) (l:List UInt8),l.length≤n→ ∀t k,bE q l=some (t,k)→ ∀b∈t,b∈l:=by
 intro n
 induction n with
 |zero=>
  intro l hl t k h
  have:l=[]:=List.eq_nil_of_length_eq_zero (by omega)
  subst this
  cases h
 |succ n ih=>
  intro l hl t k h b hb
  cases l with
  |nil=>cases h
  |cons c r=>
   simp only[List.length_cons]at hl
   by_cases hc:c=q
   ·subst hc
    cases r with
    |nil=>
     rw[ei (fun d t h=>by cases h)]at h
     injection h with h
     injection h with h _
     rw[←h]at hb;cases hb
    |cons d r=>
     by_cases hd:d=c
     ·subst hd
      rw[eM]at h
      cases hq:bE d r with
      |none=>rw[hq]at h;cases h
      |some x=>
       rw[hq]at h
       simp only[Option.map_some,Option.some.injEq,Prod.mk.injEq]at h
       rw[←h.1]at hb
       simp only[List.length_cons]at hl
       rcases List.mem_cons.1 hb with hb|hb
       ·rw[hb];simp
       ·exact List.mem_cons_of_mem _ (List.mem_cons_of_mem _ (ih r (by omega) x.1 x.2 hq b hb))
     ·rw[ei (fun e t h=>by injection h with h _;rw[←h];exact hd)]at h
      injection h with h
      injection h with h _
      rw[←h]at hb;cases hb
   ·rw[fv hc]at h
    cases hq:bE q r with
    |none=>rw[hq]at h;cases h
    |some x=>
     rw[hq]at h
     simp only[Option.map_some,Option.some.injEq,Prod.mk.injEq]at h
     rw[←h.1]at hb
     rcases List.mem_cons.1 hb with hb|hb
     ·rw[hb];simp
     ·exact List.mem_cons_of_mem _ (ih r (by omega) x.1 x.2 hq b hb)
theorem PC {d:List UInt8}(hd: ∀b∈d,ah b=true){t:Tok}(h:bU d= .ok t):VT t:=by
 unfold bU at h
 split at h
 ·cases h
 ·rename_i hh
  simp only[not_or]at hh
  injection h with h
  obtain⟨h1,h2,h3⟩:=hh
  have h0:d≠[]:=fun e=>h2 (by rw[e];rfl)
  have hN:cg d=(valD 0 d:Nat):=by unfold cg;rw[d6 hd h0 (by omega)]
  rw[hN]at h3 h
  have hT:Lib.itoa ((valD 0 d:Nat):Int)=Lib.decDigits (valD 0 d):=gR
  rw[←h,hT]
  exact .int (jl.2 ⟨fe 10 _ (by omega) (by omega),gq _,uC _⟩) (by rw[iE];omega)
theorem tE {t w:List UInt8}(h:ec t=some w):w∈bT:=by
 unfold ec at h
 repeat' split at h
 all_goals first|(injection h with h;subst h;decide)|cases h
theorem RP {c:UInt8}{d:Option UInt8}{q:Tok×Nat}(h:opC c d 0= .ok q):VT q.1:=by
 unfold opC at h
 split at h
 ·rename_i w hw
  injection h with h
  rw[←h]
  exact .word (tE hw)
 ·split at h
  ·rename_i hh
   injection h with h
   rw[←h]
   exact .sign (by simpa using hh.2)
  ·split at h
   ·rename_i w hw
    injection h with h
    rw[←h]
    exact .word (tE hw)
   ·split at h
    ·rename_i hh
     injection h with h
     rw[←h]
     exact .sign (by simpa using hh)
    ·cases h
theorem RQ {v:List UInt8}{t:Tok}{e:Nat}(hv: ∀b∈v,fN b)(h0:v≠[])(h32:hd v≠32)(h:rd v= .ok (t,e)):VT t:=by
 obtain⟨c,r,rfl⟩: ∃c r,v=c::r:=by
  cases v with
  |nil=>exact absurd rfl h0
  |cons c r=>exact⟨c,r,rfl⟩
 rw[eP]at h32
 by_cases hl:aU c=true
 ·rw[wa (by rw[eP];exact hl)]at h
  split at h
  ·cases h
  ·rename_i h31
   injection h with h
   injection h with h _
   rw[←h]
   have hp:=dy (p:=aY) (c::r)
   have hcp:aY c=true:=by unfold aY;rw[hl];rfl
   have hc1:(c::r).takeWhile aY=c::r.takeWhile aY:=by rw[List.takeWhile_cons,if_pos hcp]
   refine .name ?_
   unfold lC sD
   simp only[Bool.and_eq_true,decide_eq_true_eq,Bool.not_eq_true',List.length_map]
   refine⟨⟨⟨by omega,?_⟩,?_⟩,?_⟩
   ·rw[hc1];exact(xv c).1 hl
   ·rw[List.all_eq_true]
    intro b hb
    obtain⟨x,hx,rfl⟩:=List.mem_map.1 hb
    exact(xv x).2.1 (hp x hx)
   ·rw[List.any_eq_false]
    intro b hb
    obtain⟨x,hx,rfl⟩:=List.mem_map.1 hb
    rw[(xv x).2.2];simp
 ·by_cases hn:ah c=true∨(c=46∧ah (hd r)=true)
  ·rw[jq (u:=c::r) hn]at h
   have hf:=C0 (s:=c::r) (n:=0) (c:=c) rfl hn
   rw[h]at hf
   unfold bO at h
   simp only at h
   split at h
   ·split at h
    ·rename_i t' ht
     injection h with h
     injection h with h _
     rw[←h]
     exact PC (fun b hb=>g7 b hb) ht
    ·cases h
   ·obtain⟨k1,k2,_⟩:=ko h
    obtain⟨W,P,p,k3,k4⟩:=hf k1 k2
    obtain⟨a,b,x⟩:=t
    simp only at k1 k3 k4
    rw[k1,k4]
    exact .real k3
  ·simp only[not_or,not_and]at hn
   by_cases h46:c=46
   ·have hd2:ah (hd ((c::r).drop 1))=false:=by simpa using hn.2 h46
    rw[Kr (by rw[eP];exact h46) hd2]at h
    split at h
    ·rename_i hok
     injection h with h
     injection h with h _
     rw[←h]
     unfold cz
     split
     ·rename_i hh;exact .logic hh
     ·rename_i hh
      unfold dk at hok
      simp only[Bool.and_eq_true,Bool.or_eq_true,decide_eq_true_eq]at hok
      rcases hok.2 with(hok|hok)|hok
      ·exact .word (by simpa using hok)
      ·exact absurd (Or.inl hok) hh
      ·exact absurd (Or.inr hok) hh
    ·cases h
   ·by_cases hq:c=39∨c=34
    ·rw[uT (by rw[eP];exact hq)]at h
     unfold cr at h
     split at h
     ·cases h
     ·rename_i u k hu
      split at h
      ·cases h
      ·injection h with h
       injection h with h _
       rw[←h]
       refine .chars (kx.2 fun b hb=> ?_) (by omega)
       exact hv b (List.mem_cons_of_mem _ (Kq _ _ (Nat.le_refl _) u k hu b hb))
    ·have hs:sN c=true:=by
      unfold sN
      simp only[not_or]at hq
      have hc0:c≠0:=by
       rintro rfl
       have:=(hv 0 (by simp)).1
       exact absurd this (by decide)
      have hl':aU c=false:=by simpa using hl
      have hd':ah c=false:=by simpa using hn.1
      rw[hl',hd',decide_eq_false h46,decide_eq_false hq.1,decide_eq_false hq.2,decide_eq_false h32,decide_eq_false hc0]
      rfl
     rw[mj hs]at h
     exact RP h
theorem PZ: ∀{u:List UInt8} {l:List Tok},Lex u l→(∀b∈u,fN b)→ ∀t∈l,VT t:=by
 intro u l h
 induction h with
 |nil _=>intro _ t ht;cases ht
 |cons h1 h2 h3 h4 ih=>
  rename_i u v t e l
  intro hu x hx
  have hv: ∀b∈v,fN b:=fun b hb=>hu b (List.mem_of_mem_drop (by rw[h1];exact hb))
  rcases List.mem_cons.1 hx with rfl|hx
  ·refine RQ hv h2 ?_ h3
   cases hq:v with
   |nil=>exact absurd hq h2
   |cons c r=>exact nP u c r (by rw[h1,hq])
  ·exact ih (fun b hb=>hv b (List.mem_of_mem_drop hb)) x hx
theorem O4 {s:List UInt8}(h:(bc false s).e=0): ∀t∈ct false s,VT t:=by
 obtain⟨h1,h2,_⟩:=sW h
 exact PZ h2 (KW h1)
theorem QO {t:Tok}(h:VT t):t.text.length≤1320:=by
 cases h with
 |name k=>have:=(ed k).1;simp only;omega
 |int k1 k2=>have:=(dS k1).1;simp only;omega
 |real k=>have:=(MG k).2.2.2;simp only;omega
 |logic k=>rcases k with rfl|rfl<;>decide
 |chars k1 k2=>
  rename_i u
  have:=mf u
  have:=jB u
  show (aR u).length≤1320
  omega
 |word k=>rename_i a;exact(by decide: ∀w∈bT,w.length≤1320) a k
 |sign k=>rename_i a;exact(by decide: ∀w∈bm,w.length≤1320) a k
theorem KZ {t:Tok}(h:VT t):gl t.text=some t:=by
 have e:sx [t]=t.text:=by show t.text++[]=_;rw[List.append_nil]
 have:=KA (l:=[t]) (fun u hu=>by rw[List.mem_singleton.1 hu];exact h) (by simp) (by rw[e];exact QO h)
 rw[e]at this
 exact ge.2 this
theorem BH {t:Tok}:lh t=0↔VT t:=by
 constructor
 ·intro h
  obtain⟨a,b,x⟩:=t
  unfold lh at h
  simp only at h
  split at h
  ·rename_i ha
   subst ha
   unfold gi at h
   split at h
   ·rename_i hb
    subst hb
    split at h
    ·rename_i hf
     split at h
     ·cases h
     ·exact .int hf (by omega)
    ·cases h
   ·split at h
    ·split at h
     ·rename_i hs
      obtain⟨h1,h2⟩:=ge.1 hs
      exact O4 h1 _ (by rw[h2];simp)
     ·cases h
    ·cases h
  ·split at h
   ·rename_i hk
    split at h
    ·rename_i hb
     subst hb
     split at h
     ·rename_i ha
      subst ha
      split at h
      ·rename_i hc;exact .name hc
      ·cases h
     ·rename_i ha
      have ha2:a=2:=hk.resolve_left ha
      subst ha2
      split at h
      ·rename_i hc
       rw[Bool.or_eq_true]at hc
       rcases hc with hc|hc
       ·exact .word (by simpa using hc)
       ·exact .sign (by simpa using hc)
      ·cases h
    ·cases h
   ·cases h
 ·intro h
  have hs:=KZ h
  cases h with
  |name k=>
   show (if(0:Int)=1 then _ else if(0:Int)=0∨(0:Int)=2 then _ else _)=0
   rw[if_neg (by decide),if_pos (by decide)]
   simp[k]
  |int k1 k2=>
   show gi 0 _=0
   unfold gi
   rw[if_pos rfl,if_pos k1,if_neg (by simp only;omega)]
  |real k=>exact BZ k
  |logic k=>
   show gi 5 _=0
   unfold gi
   rw[if_neg (by decide),if_pos (by decide),if_pos hs]
  |chars k1 k2=>exact BY k1 k2
  |word k=>
   show (if(2:Int)=1 then _ else if(2:Int)=0∨(2:Int)=2 then _ else _)=0
   rw[if_neg (by decide),if_pos (by decide)]
   simp[k]
  |sign k=>
   show (if(2:Int)=1 then _ else if(2:Int)=0∨(2:Int)=2 then _ else _)=0
   rw[if_neg (by decide),if_pos (by decide)]
   simp[k]
end Go.Abs
set_option linter.unusedVariables false
set_option linter.unusedSimpArgs false
namespace Go.Abs
open Go Go.Proofs
def noQ (c:UInt8):Prop:=c≠39∧c≠34
structure Sim (f1:Bool) (s1:List UInt8) (f2:Bool) (s2:List UInt8) (R:Nat→Nat→Prop):Prop where
 ch: ∀i j,R i j→atC f1 s1 i=atC f2 s2 j
 nx: ∀i j,R i j→atC f1 s1 i≠0→noQ (atC f1 s1 i)→R (atE f1 s1 i) (atE f2 s2 j)
def K4 (R:Nat→Nat→Prop):Except Int (Tok×Nat)→Except Int (Tok×Nat)→Prop
 | .ok p,.ok q=>p.1=q.1∧R p.2 q.2
 | .error x,.error y=>x=y
 |_,_=>False
theorem Om {c:UInt8}(h:aU c=true):noQ c:=by constructor<;>(rintro rfl;exact absurd h (by decide))
theorem ot {c:UInt8}(h:ah c=true):noQ c:=by constructor<;>(rintro rfl;exact absurd h (by decide))
theorem EJ {c:UInt8}(h:aY c=true):noQ c:=by constructor<;>(rintro rfl;exact absurd h (by decide))
section
variable {f1 f2:Bool}{s1 s2:List UInt8}{R:Nat→Nat→Prop}
theorem O8 (S:Sim f1 s1 f2 s2 R){p:UInt8→Bool}(hp: ∀c,p c=true→noQ c): ∀(m i j:Nat),s1.length-i≤m→R i j→cj f1 p s1 i=cj f2 p s2 j∧R (runE f1 p s1 i) (runE f2 p s2 j):=by
 intro m
 induction m with
 |zero=>
  intro i j hm h
  have h0:atC f1 s1 i=0:=by
   refine Classical.byContradiction fun h0=> ?_
   have:=vf h0
   omega
  obtain⟨a,b⟩:=g8 (fx:=f1) (s:=s1) (p:=p) (n:=i) (by rw[h0];rfl)
  obtain⟨c,d⟩:=g8 (fx:=f2) (s:=s2) (p:=p) (n:=j) (by rw[←S.ch i j h,h0];rfl)
  rw[a,b,c,d]
  exact⟨rfl,h⟩
 |succ m ih=>
  intro i j hm h
  have hc:=S.ch i j h
  cases hq:(atC f1 s1 i != 0&&p (atC f1 s1 i))with
  |false=>
   obtain⟨a,b⟩:=g8 (fx:=f1) (s:=s1) (p:=p) (n:=i) hq
   obtain⟨c,d⟩:=g8 (fx:=f2) (s:=s2) (p:=p) (n:=j) (by rw[←hc];exact hq)
   rw[a,b,c,d]
   exact⟨rfl,h⟩
  |true=>
   obtain⟨a,b⟩:=nD (fx:=f1) (s:=s1) (p:=p) (n:=i) hq
   obtain⟨c,d⟩:=nD (fx:=f2) (s:=s2) (p:=p) (n:=j) (by rw[←hc];exact hq)
   rw[Bool.and_eq_true]at hq
   have h0:atC f1 s1 i≠0:=by simpa using hq.1
   have hg:=vf h0
   obtain⟨k1,k2⟩:=ih _ _ (by omega) (S.nx i j h h0 (hp _ hq.2))
   rw[a,b,c,d,k1,hc]
   exact⟨rfl,k2⟩
theorem kr (S:Sim f1 s1 f2 s2 R){p:UInt8→Bool}(hp: ∀c,p c=true→noQ c){i j:Nat}(h:R i j):cj f1 p s1 i=cj f2 p s2 j∧R (runE f1 p s1 i) (runE f2 p s2 j):=O8 S hp _ i j (Nat.le_refl _) h
theorem wm (S:Sim f1 s1 f2 s2 R){i j:Nat}(h:R i j):(bg f1 s1 i).1=(bg f2 s2 j).1∧(bg f1 s1 i).2.2=(bg f2 s2 j).2.2∧((bg f1 s1 i).2.2=true→R (bg f1 s1 i).2.1 (bg f2 s2 j).2.1):=by
 have hc:=S.ch i j h
 unfold bg
 by_cases h46:atC f1 s1 i=46
 ·rw[if_pos h46,if_pos (by rw[←hc];exact h46)]
  have h1:=S.nx i j h (by rw[h46];decide) (by rw[h46];exact⟨by decide,by decide⟩)
  obtain⟨k1,k2⟩:=kr S (p:=aU) (fun c=>Om) h1
  have hT:cq f1 s1 i=cq f2 s2 j:=by unfold cq;rw[k1]
  have hO:dk f1 s1 i=dk f2 s2 j:=by unfold dk;rw[hT,S.ch _ _ k2]
  refine⟨hT,hO,fun hok=> ?_⟩
  simp only at hok
  unfold dk at hok
  rw[Bool.and_eq_true,decide_eq_true_eq]at hok
  exact S.nx _ _ k2 (by rw[hok.1];decide) (by rw[hok.1];exact⟨by decide,by decide⟩)
 ·rw[if_neg h46,if_neg (by rw[←hc];exact h46)]
  exact⟨rfl,rfl,fun e=>by cases e⟩
theorem LA {c:UInt8}(h:c &&& 223=69∨c &&& 223=68):c≠0∧noQ c:=by
 refine⟨?_,?_,?_⟩
 all_goals
  rintro rfl
  exact absurd h (by decide)
theorem MT (S:Sim f1 s1 f2 s2 R){i j:Nat}(h:R i j):(aL f1 s1 i).1=(aL f2 s2 j).1∧(aL f1 s1 i).2.1=(aL f2 s2 j).2.1∧(aL f1 s1 i).2.2.2=(aL f2 s2 j).2.2.2∧((aL f1 s1 i).2.2.2=true→R (aL f1 s1 i).2.2.1 (aL f2 s2 j).2.2.1):=by
 have hc:=S.ch i j h
 have hL:bN f1 s1 i=bN f2 s2 j:=by unfold bN;rw[hc]
 unfold aL
 by_cases hx:bN f1 s1 i=69∨bN f1 s1 i=68
 ·rw[if_pos hx,if_pos (by rw[←hL];exact hx)]
  obtain⟨h0,hq⟩:=LA hx
  have h1:=S.nx i j h h0 hq
  have hc1:=S.ch _ _ h1
  have hsi:bX f1 s1 i=bX f2 s2 j:=by unfold bX;rw[hc1]
  have hst:R (expStart f1 s1 i) (expStart f2 s2 j):=by
   unfold expStart
   by_cases hs:atC f1 s1 (atE f1 s1 i)=43∨atC f1 s1 (atE f1 s1 i)=45
   ·rw[if_pos hs,if_pos (by rw[←hc1];exact hs)]
    refine S.nx _ _ h1 ?_ ?_
    ·rcases hs with hs|hs<;>rw[hs]<;>decide
    ·rcases hs with hs|hs<;>rw[hs]<;>exact⟨by decide,by decide⟩
   ·rw[if_neg hs,if_neg (by rw[←hc1];exact hs)]
    exact h1
  obtain⟨k1,k2⟩:=kr S (p:=ah) (fun c=>ot) hst
  have hdi:aP f1 s1 i=aP f2 s2 j:=k1
  exact⟨hL,by rw[hsi,hdi],by rw[hdi],fun _=>k2⟩
 ·rw[if_neg hx,if_neg (by rw[←hL];exact hx)]
  exact⟨rfl,rfl,rfl,fun e=>by cases e⟩
theorem Hw (S:Sim f1 s1 f2 s2 R){i j:Nat}(h:R i j):K4 R (bO f1 s1 i) (bO f2 s2 j):=by
 obtain⟨w1,w2⟩:=kr S (p:=ah) (fun c=>ot) h
 have hW:bx f1 s1 i=bx f2 s2 j:=w1
 obtain⟨d1,d2,d3⟩:=wm S w2
 have hD:bS f1 s1 i=bS f2 s2 j:=by unfold bS;rw[hW,d2,S.ch _ _ w2]
 have hPE:cB f1 s1 i=cB f2 s2 j∧R (numEnd f1 s1 i) (numEnd f2 s2 j):=by
  unfold cB numEnd
  rw[←hD]
  cases hd:bS f1 s1 i with
  |false=>exact⟨rfl,w2⟩
  |true=>
   have h46:atC f1 s1 (runE f1 ah s1 i)=46:=by
    unfold bS at hd
    rw[Bool.and_eq_true,decide_eq_true_eq]at hd
    exact hd.1
   have h1:=S.nx _ _ w2 (by rw[h46];decide) (by rw[h46];exact⟨by decide,by decide⟩)
   exact kr S (p:=ah) (fun c=>ot) h1
 obtain⟨hP,hE⟩:=hPE
 obtain⟨e1,e2,e3,e4⟩:=MT S hE
 unfold bO
 simp only
 rw[hD,hW,hP,e1,e2,e3]
 split
 ·cases bU (bx f2 s2 j)with
  |ok t=>exact⟨rfl,hE⟩
  |error e=>exact rfl
 ·unfold real
  split
  ·exact rfl
  ·refine⟨rfl,?_⟩
   cases hx:(aL f2 s2 (numEnd f2 s2 j)).2.2.2 with
   |true=>exact e4 (by rw[e3];exact hx)
   |false=>exact hE
theorem MS: ∀a b:UInt8,bm.contains [a,b]=true→noQ b:=by
 intro a b h
 simp only[bm,List.contains_eq_mem,List.mem_cons,List.cons.injEq,and_true,List.not_mem_nil,or_false,reduceCtorEq,and_false,decide_eq_true_eq]at h
 rcases h with h|h|h<;>rw[h.2]<;>exact⟨by decide,by decide⟩
theorem QG (S:Sim f1 s1 f2 s2 R){i j:Nat}(h:R i j)(h0:atC f1 s1 i≠0)(hq:noQ (atC f1 s1 i)):K4 R (dl f1 s1 i) (dl f2 s2 j):=by
 have hc:=S.ch i j h
 have h1:=S.nx i j h h0 hq
 have hc1:=S.ch _ _ h1
 unfold dl
 simp only
 rw[←hc,←hc1]
 split
 ·rename_i w hw
  have h61:=yo hw
  exact⟨rfl,S.nx _ _ h1 (by rw[h61];decide) (by rw[h61];exact⟨by decide,by decide⟩)⟩
 ·split
  ·rename_i hs
   exact⟨rfl,S.nx _ _ h1 hs.1 (MS _ _ hs.2)⟩
  ·split
   ·exact⟨rfl,h1⟩
   ·split
    ·exact⟨rfl,h1⟩
    ·exact rfl
theorem KH (S:Sim f1 s1 f2 s2 R){i j:Nat}{c:UInt8}(h:R i j)(g1:s1[i]? =some c)(g2:s2[j]? =some c)(h0:c≠0)(h32:c≠32)(hq:noQ c):K4 R (fX (bI f1 s1 i c)) (fX (bI f2 s2 j c)):=by
 obtain⟨a1,a2⟩:=ld (fx:=f1) g1 h32
 obtain⟨b1,b2⟩:=ld (fx:=f2) g2 h32
 have h1:=S.nx i j h (by rw[a1];exact h0) (by rw[a1];exact hq)
 rw[a2,b2]at h1
 have hc1:=S.ch _ _ h1
 unfold bI
 rw[hc1]
 split
 ·obtain⟨k1,k2⟩:=kr S (p:=aY) (fun c=>EJ) h
  rw[k1]
  split
  ·exact rfl
  ·exact⟨rfl,k2⟩
 ·split
  ·rw[eu,eu]
   exact Hw S h
  ·split
   ·obtain⟨d1,d2,d3⟩:=wm S h
    rw[d1,d2]
    split
    ·rename_i hok
     exact⟨rfl,d3 (by rw[d2];exact hok)⟩
    ·exact rfl
   ·rw[if_neg (by simp[hq.1,hq.2]),if_neg (by simp[hq.1,hq.2]),eu,eu]
    exact QG S h (by rw[a1];exact h0) (by rw[a1];exact hq)
end
end Go.Abs
set_option linter.unusedVariables false
set_option linter.unusedSimpArgs false
set_option maxRecDepth 100000
namespace Go.Abs
open Go Go.Proofs
def pl:List UInt8→Nat→List Nat
 |[],_=>[]
 |c::r,i=>if c=32 then pl r (i+1)else if c=39∨c=34 then [i]else i::pl r (i+1)
section
variable {s:List UInt8}{n:Nat}
theorem yn:skipN true s n=n+aF (s.drop n):=rfl
theorem iZ:atC true s n=(((s.drop n).drop (aF (s.drop n)))[0]?).getD 0:=by
 unfold atC
 rw[yn,List.drop_drop,List.getElem?_drop,Nat.add_zero]
theorem zK (s:List UInt8)(n:Nat):((s.drop n).drop (aF (s.drop n))=[]∧atC true s n=0)∨
  ∃c,(s.drop n).drop (aF (s.drop n))=c::s.drop (atE true s n)∧atC true s n=c∧c≠32∧atE true s n=n+aF (s.drop n)+1∧n+aF (s.drop n)<s.length:=by
 cases h:(s.drop n).drop (aF (s.drop n))with
 |nil=>exact Or.inl ⟨rfl,by rw[iZ,h];rfl⟩
 |cons c r=>
  right
  have hlt:n+aF (s.drop n)<s.length:=by
   have:=congrArg List.length h
   rw[List.length_drop,List.length_drop]at this
   simp at this
   omega
  have hE:atE true s n=n+aF (s.drop n)+1:=by unfold atE;rw[yn,if_pos hlt]
  refine⟨c,?_,by rw[iZ,h];rfl,iL _ c r h,hE,hlt⟩
  rw[hE,←List.drop_drop,←List.drop_drop,h]
  rfl
end
end Go.Abs
set_option linter.unusedVariables false
set_option linter.unusedSimpArgs false
set_option maxRecDepth 100000
namespace Go.Abs
open Go Go.Proofs
section
variable {μ:Mu}{s:List UInt8}
theorem e32 (c:UInt8):decide ((c.toNat:Int)=32)=decide (c=32):=co (k:=32) (by omega)
end
end Go.Abs
set_option linter.unusedVariables false
set_option linter.unusedSimpArgs false
set_option maxRecDepth 100000
namespace Go.Abs
open Go Go.Proofs
section
variable {s:List UInt8}{n:Nat}
instance (c:UInt8):Decidable (noQ c):=by unfold noQ;infer_instance
variable {μ:Mu}{out:List Tok}{sq:List UInt8}
end
end Go.Abs
set_option linter.unusedVariables false
set_option linter.unusedSimpArgs false
set_option maxRecDepth 100000
namespace Go.Abs
open Go Go.Proofs
section
variable {s:List UInt8}{μ:Mu}{out:List Tok}{sq:List UInt8}
end
end Go.Abs
set_option linter.unusedVariables false
set_option linter.unusedSimpArgs false
set_option maxRecDepth 100000
namespace Go.Abs
open Go Go.Proofs
section
variable {s a:List UInt8}{n p:Nat}
theorem Kp {q:UInt8}: ∀(m:Nat) (l:List UInt8),l.length≤m→ ∀t k,bE q l=some (t,k)→ ∀y,(∀c r,y=c::r→c≠q)→bE q (l.take k++y)=some (t,k):=by
 intro m
 induction m with
 |zero=>
  intro l hl t k h
  have:l=[]:=List.eq_nil_of_length_eq_zero (by omega)
  subst this
  cases h
 |succ m ih=>
  intro l hl t k h y hy
  cases l with
  |nil=>cases h
  |cons c r=>
   simp only[List.length_cons]at hl
   by_cases hc:c=q
   ·subst hc
    have hend:(∀d t,r=d::t→d≠c)→bE c ((c::r).take k++y)=some (t,k):=by
     intro hr
     rw[ei hr]at h
     injection h with h
     injection h with h1 h2
     subst h1 h2
     show bE c (c::([]++y))=_
     rw[List.nil_append]
     exact ei hy
    cases r with
    |nil=>exact hend (fun d t h=>by cases h)
    |cons d r=>
     by_cases hd:d=c
     ·subst hd
      rw[eM]at h
      cases hq:bE d r with
      |none=>rw[hq]at h;cases h
      |some x=>
       rw[hq]at h
       simp only[Option.map_some,Option.some.injEq,Prod.mk.injEq]at h
       obtain⟨rfl,rfl⟩:=h
       simp only[List.length_cons]at hl
       have:=ih r (by omega) x.1 x.2 hq y hy
       rw[show (d::d::r).take (x.2+2)++y=d::d::(r.take x.2++y)from rfl,eM,this]
       rfl
     ·exact hend (fun e t h=>by injection h with h _;rw[←h];exact hd)
   ·rw[fv hc]at h
    cases hq:bE q r with
    |none=>rw[hq]at h;cases h
    |some x=>
     rw[hq]at h
     simp only[Option.map_some,Option.some.injEq,Prod.mk.injEq]at h
     obtain⟨rfl,rfl⟩:=h
     have:=ih r (by omega) x.1 x.2 hq y hy
     rw[show (c::r).take (x.2+1)++y=c::(r.take x.2++y)from rfl,fv hc,this]
     rfl
def mL (t:Tok):Prop:=t.kind=1∧t.type=6
end
end Go.Abs
set_option linter.unusedVariables false
set_option linter.unusedSimpArgs false
set_option maxRecDepth 100000
namespace Go.Abs
open Go Go.Proofs
inductive BB:List UInt8→List UInt8→Prop
 |nil:BB [] []
 |sp {u w}:BB u w→BB (32::u) w
 |ch {c u w}:noQ c→c≠32→c≠104→BB u w→BB (c::u) (c::w)
 |qt {t u w}:(∀d r,u=d::r→d≠39)→(∀d r,w=d::r→d≠39)→BB u w→BB (aR t++u) (aR t++w)
theorem mb {u w:List UInt8}(h:BB u w):(w=[]∧u.drop (aF u)=[])∨(∃c u' w',w=c::w'∧u.drop (aF u)=c::u'∧noQ c∧c≠32∧c≠104∧BB u' w')∨
  ∃t u' w',w=aR t++w'∧u.drop (aF u)=aR t++u'∧(∀d r,u'=d::r→d≠39)∧(∀d r,w'=d::r→d≠39)∧BB u' w':=by
 induction h with
 |nil=>exact Or.inl ⟨rfl,rfl⟩
 |sp h ih=>
  rename_i u w
  have e:(32::u).drop (aF (32::u))=u.drop (aF u):=by rw[aF,if_pos rfl,List.drop_succ_cons]
  rw[e]
  exact ih
 |ch h1 h2 h3 h4 ih=>
  rename_i c u w
  exact Or.inr (Or.inl ⟨c,u,w,rfl,by rw[aF,if_neg h2];rfl,h1,h2,h3,h4⟩)
 |qt h1 h2 h3 ih=>
  rename_i t u w
  refine Or.inr (Or.inr ⟨t,u,w,rfl,?_,h1,h2,h3⟩)
  have:aR t++u=39::(dbl t++[39]++u):=by unfold aR;simp
  rw[this,aF,if_neg (by decide)]
  rfl
theorem M2 {u w:List UInt8}(h:BB u w): ∀c r,w=c::r→c≠32∧c≠104:=by
 intro c r hw
 rcases mb h with⟨h1,_⟩|⟨d,u',w',h1,_,_,h4,h5,_⟩|⟨t,u',w',h1,_⟩
 ·rw[h1]at hw;cases hw
 ·rw[h1]at hw;injection hw with hw _;subst hw;exact⟨h4,h5⟩
 ·rw[h1]at hw
  have:aR t++w'=39::(dbl t++[39]++w'):=by unfold aR;simp
  rw[this]at hw
  injection hw with hw _
  subst hw
  decide
section
variable {s d:List UInt8}{n m:Nat}
def RK (s d:List UInt8)(i j:Nat):Prop:=BB (s.drop i) (d.drop j)
theorem S3 (hs: ∀b∈s,b≠0)(hd0: ∀b∈d,b≠0):Sim true s true d (RK s d):=by
 have key: ∀i j,RK s d i j→atC true s i=atC true d j∧(atC true s i≠0→noQ (atC true s i)→RK s d (atE true s i) (atE true d j)):=by
  intro i j h
  rcases mb h with⟨h1,h2⟩|⟨c,u',w',h1,h2,h3,h4,h5,h6⟩|⟨t,u',w',h1,h2,_⟩
  ·have e1:atC true s i=0:=by rw[iZ,h2];rfl
   have e2:atC true d j=0:=by rw[iZ,h1];rfl
   exact⟨by rw[e1,e2],fun h=>absurd e1 h⟩
  ·have hb:aF (d.drop j)=0:=by rw[h1,aF,if_neg h4]
   rcases zK s i with⟨a1,a2⟩|⟨x,a1,a2,a3,_⟩
   ·rw[a1]at h2;cases h2
   ·rw[a1]at h2
    injection h2 with h2 h7
    subst h2
    rcases zK d j with⟨b1,b2⟩|⟨y,b1,b2,b3,_⟩
    ·rw[hb,h1]at b1;cases b1
    ·rw[hb,List.drop_zero,h1]at b1
     injection b1 with b1 b4
     subst b1
     refine⟨by rw[a2,b2],fun _ _=> ?_⟩
     show BB (s.drop (atE true s i)) (d.drop (atE true d j))
     rw[h7,←b4]
     exact h6
  ·have ht: ∀r,aR t++r=39::(dbl t++[39]++r):=by intro r;unfold aR;simp
   rw[ht]at h1 h2
   have e1:atC true s i=39:=by rw[iZ,h2];rfl
   have e2:atC true d j=39:=by rw[iZ,h1,aF,if_neg (by decide)];rfl
   exact⟨by rw[e1,e2],fun _ hq=>absurd e1 hq.1⟩
 exact⟨fun i j h=>(key i j h).1,fun i j h=>(key i j h).2⟩
def noH (d:List UInt8):Prop:= ∀i,d[i+1]? =some 72→ah ((d[i]?).getD 0)=false
theorem HH: ∀(w u:List UInt8),BB u w→(w.takeWhile ah≠[]∨True)→ ∃u',BB u' (w.dropWhile ah):=by
 intro w
 induction w with
 |nil=>intro u h _;exact⟨u,h⟩
 |cons c w ih=>
  intro u h _
  rw[List.dropWhile_cons]
  split
  ·rename_i hd
   rcases mb h with⟨h1,_⟩|⟨x,u',w',h1,_,_,_,_,h6⟩|⟨t,u',w',h1,_⟩
   ·cases h1
   ·injection h1 with _ h1
    subst h1
    exact ih u' h6 (Or.inr trivial)
   ·have ht: ∀r,aR t++r=39::(dbl t++[39]++r):=by intro r;unfold aR;simp
    rw[ht]at h1
    injection h1 with h1 _
    subst h1
    exact absurd hd (by decide)
  ·exact⟨u,h⟩
theorem Bk {p:UInt8→Bool}(hp:p 0=false): ∀(l:List UInt8),(∀b∈l.takeWhile p,b≠32)→(∀c r,l.dropWhile p=c::r→c≠32)→ex true p l 0=(l.takeWhile p,(l.takeWhile p).length)
 |[],_,_=>rfl
 |c::r,h1,h2=>by
  unfold ex
  cases hc:p c with
  |false=>
   rw[List.dropWhile_cons,hc]at h2
   have h32:(c == 32)=false:=by simpa using h2 c r rfl
   rw[h32]
   simp[hc]
  |true=>
   rw[List.takeWhile_cons,hc]at h1
   rw[List.dropWhile_cons,hc]at h2
   have h32:(c == 32)=false:=by simpa using h1 c (by simp)
   have h0:(c != 0)=true:=by
    by_cases h:c=0
    ·rw[h,hp]at hc;cases hc
    ·simp[h]
   rw[h32,h0,Bk hp r (fun b hb=>h1 b (List.mem_cons_of_mem _ hb)) h2]
   simp[hc]
   omega
theorem Ka {u:List UInt8}(hn:noH d)(h:BB u (d.drop m))(hg:ah ((d[m]?).getD 0)=true): ¬im true d m:=by
 intro hok
 have h0:m<d.length:=by
  refine Classical.byContradiction fun e=> ?_
  rw[List.getElem?_eq_none (by omega)]at hg
  exact absurd hg (by decide)
 obtain⟨u',h2⟩:=HH (d.drop m) u h (Or.inr trivial)
 have hrun := Bk cQ (d.drop m) (fun b hb => by
  have:=dy (p:=ah) _ b hb
  rintro rfl
  exact absurd this (by decide)) (fun c r hc=>(M2 h2 c r hc).1)
 have hE:runE true ah d m=m+((d.drop m).takeWhile ah).length:=by unfold runE;rw[hrun]
 have hsplit:(d.drop m).takeWhile ah++(d.drop m).dropWhile ah=d.drop m:=List.takeWhile_append_dropWhile
 have hdrop:d.drop (m+((d.drop m).takeWhile ah).length)=(d.drop m).dropWhile ah:=by
  rw[←List.drop_drop]
  conv=>lhs;rw[←hsplit]
  have e:List.takeWhile ah (List.drop m d)=List.takeWhile ah (List.takeWhile ah (List.drop m d)++List.dropWhile ah (List.drop m d)):=by rw[hsplit]
  rw[←e]
  exact List.drop_left' rfl
 have hW1:1≤((d.drop m).takeWhile ah).length:=by
  rw[List.drop_eq_getElem_cons h0,List.takeWhile_cons]
  rw[List.getElem?_eq_getElem h0,Option.getD_some]at hg
  rw[hg]
  simp
 have hc:=hok.2.2.2
 unfold lE at hc
 rw[hE,iZ,hdrop]at hc
 cases hq:(d.drop m).dropWhile ah with
 |nil=>rw[hq]at hc;rcases hc with h|h<;>exact absurd h (by decide)
 |cons x r=>
  obtain⟨k1,k2⟩:=M2 h2 x r hq
  rw[hq,aF,if_neg k1]at hc
  have hx:x=72:=by
   rcases hc with h|h
   ·exact h
   ·exact absurd h k2
  have hgx:d[m+((d.drop m).takeWhile ah).length]? =some 72:=by
   have:(d.drop (m+((d.drop m).takeWhile ah).length))[0]? =some x:=by rw[hdrop,hq];rfl
   rw[List.getElem?_drop,Nat.add_zero,hx]at this
   exact this
  have hlast:ah ((d[m+((d.drop m).takeWhile ah).length-1]?).getD 0)=true:=by
   have h3:((d.drop m).takeWhile ah)[((d.drop m).takeWhile ah).length-1]? =d[m+((d.drop m).takeWhile ah).length-1]? :=by
    have:(d.drop m)[((d.drop m).takeWhile ah).length-1]? =((d.drop m).takeWhile ah)[((d.drop m).takeWhile ah).length-1]? :=by
     conv=>lhs;rw[←hsplit]
     have e:List.takeWhile ah (List.drop m d)=List.takeWhile ah (List.takeWhile ah (List.drop m d)++List.dropWhile ah (List.drop m d)):=by rw[hsplit]
     rw[←e]
     exact List.getElem?_append_left (by omega)
    rw[←this,List.getElem?_drop]
    congr 1
    omega
   rw[←h3,List.getElem?_eq_getElem (by omega),Option.getD_some]
   exact dy (p:=ah) _ _ (List.getElem_mem _)
  have:=hn (m+((d.drop m).takeWhile ah).length-1) (by rw[show m+((d.drop m).takeWhile ah).length-1+1=m+((d.drop m).takeWhile ah).length from by omega];exact hgx)
  rw[this]at hlast
  cases hlast
theorem Oh {f1 f2:Bool}{s1 s2:List UInt8}{R:Nat→Nat→Prop}(S:Sim f1 s1 f2 s2 R){i j:Nat}(h:R i j):im f1 s1 i↔im f2 s2 j:=by
 obtain⟨r1,r2⟩:=kr S (p:=ah) (fun c=>ot) h
 have hc:=S.ch _ _ r2
 have hN:eC f1 s1 i=eC f2 s2 j:=by unfold eC;rw[r1]
 have hC:lE f1 s1 i=lE f2 s2 j:=hc
 unfold im
 rw[r1,hN,hC]
theorem Hz (hs: ∀b∈s,b≠0)(hd0: ∀b∈d,b≠0)(hn:noH d): ∀(k n m k':Nat) (out:List Tok) (kept kept':List Nat),s.length<n+k→n≤s.length→d.length<m+k'→m≤d.length→BB (s.drop n) (d.drop m)→
  (bA true s k n out kept).1.map Prod.snd=(bA true d k' m out kept').1.map Prod.snd∧(bA true s k n out kept).2.1=(bA true d k' m out kept').2.1:=by
 intro k
 induction k with
 |zero=>intro n m k' out kept kept' h1 h2;omega
 |succ k ih=>
  intro n m k' out kept kept' h1 h2 h3 h4 hB
  obtain⟨k'',rfl⟩: ∃k'',k'=k''+1:=⟨k'-1,by omega⟩
  have hb:=gL (s.drop n)
  rw[List.length_drop]at hb
  unfold bA
  by_cases hlen:s.length≤n+aF (s.drop n)
  ·rw[if_pos hlen]
   have hnil:(s.drop n).drop (aF (s.drop n))=[]:=by rw[List.drop_drop];exact List.drop_eq_nil_of_le hlen
   have hd:d.drop m=[]:=by
    rcases mb hB with⟨h5,_⟩|⟨c,u',w',_,h6,_⟩|⟨t,u',w',_,h6,_⟩
    ·exact h5
    ·rw[hnil]at h6;cases h6
    ·rw[hnil]at h6
     have:=congrArg List.length h6
     unfold aR at this
     simp at this
   have:d.length≤m+aF (d.drop m):=by have:=congrArg List.length hd;rw[List.length_drop]at this;simp at this;omega
   rw[if_pos this]
   exact⟨rfl,rfl⟩
  ·rw[if_neg hlen]
   obtain⟨c,hg,h32⟩:=lR (s:=s) (n:=n) (by omega)
   obtain⟨p,hp⟩: ∃p,p=n+aF (s.drop n):=⟨_,rfl⟩
   rw[←hp]at hlen hg ⊢
   have hdp:(s.drop n).drop (aF (s.drop n))=s.drop p:=by rw[List.drop_drop,hp]
   have hplt:=eI hg
   have hsp:s.drop p=c::s.drop (p+1):=by
    rw[List.drop_eq_getElem_cons hplt]
    rw[List.getElem?_eq_getElem hplt]at hg
    injection hg with hg
    rw[hg]
   have hBp:BB (s.drop p) (d.drop m)∧ ∃w',d.drop m=c::w':=by
    rcases mb hB with⟨h5,h6⟩|⟨x,u',w',h5,h6,a1,a2,a3,a4⟩|⟨t,u',w',h5,h6,a1,a2,a3⟩
    ·rw[hdp,hsp]at h6;cases h6
    ·rw[hdp]at h6
     rw[h6,h5]
     refine⟨.ch a1 a2 a3 a4,?_⟩
     rw[hsp]at h6
     injection h6 with h6 _
     exact⟨w',by rw[h6]⟩
    ·rw[hdp]at h6
     rw[h6,h5]
     refine⟨.qt a1 a2 a3,?_⟩
     have ht: ∀r,aR t++r=39::(dbl t++[39]++r):=by intro r;unfold aR;simp
     rw[hsp,ht]at h6
     injection h6 with h6 _
     rw[ht,h6]
     exact⟨_,rfl⟩
   obtain⟨hB2,w',hw'⟩:=hBp
   have hgd:d[m]? =some c:=by
    have:(d.drop m)[0]? =some c:=by rw[hw'];rfl
    rw[List.getElem?_drop,Nat.add_zero]at this
    exact this
   have hmlt:=eI hgd
   have hb0:aF (d.drop m)=0:=by rw[hw',aF,if_neg h32]
   rw[hb0,Nat.add_zero,if_neg (by omega)]
   have hs1:(s[p]?).getD 0=c:=by rw[hg];rfl
   have hd1:(d[m]?).getD 0=c:=by rw[hgd];rfl
   have S:=S3 (s:=s) (d:=d) hs hd0
   have hR:RK s d p m:=hB2
   have hTs:de true s out p=bI true s p c:=by
    unfold de
    rw[hs1]
    cases hdg:ah c with
    |false=>rw[if_neg (by simp)]
    |true=>
     have hno:=Ka hn hB2 (by rw[hd1];exact hdg)
     rw[decide_eq_false (fun e=>hno ((Oh S hR).1 e)),if_neg (by simp)]
   have hTd:de true d out m=bI true d m c:=by
    unfold de
    rw[hd1]
    cases hdg:ah c with
    |false=>rw[if_neg (by simp)]
    |true=>
     have hno:=Ka hn hB2 (by rw[hd1];exact hdg)
     rw[decide_eq_false hno,if_neg (by simp)]
   have hfs:=iD (fx:=true) (out:=out) hg h32
   have hfd:=iD (fx:=true) (out:=out) hgd h32
   rw[hTs]at hfs ⊢
   rw[hTd]at hfd ⊢
   by_cases hq:noQ c
   ·have hrel:=KH S hR hg hgd (hs c (List.mem_of_getElem? hg)) h32 hq
    cases hA:bI true s p c with
    |error x=>
     rw[hA]at hrel
     cases hC:bI true d m c with
     |error y=>
      rw[hC]at hrel
      exact⟨by rw[show x=y from hrel];rfl,rfl⟩
     |ok q=>rw[hC]at hrel;exact hrel.elim
    |ok q=>
     rw[hA]at hrel hfs
     cases hC:bI true d m c with
     |error y=>rw[hC]at hrel;exact hrel.elim
     |ok q'=>
      rw[hC]at hrel hfd
      obtain⟨r1,r2⟩:=hrel
      simp only at r1 r2
      simp only
      rw[r1]
      exact ih q.2.1 q'.2.1 k'' _ _ _ (by have:=hfs.1;omega) hfs.2.1 (by have:=hfd.1;omega) hfd.2.1 r2
   ·have hTq: ∀(f:List UInt8) (m:Nat),bI true f m c=cS f m:=by
     intro f m
     have hc':c=39∨c=34:=Classical.byContradiction fun e=>hq ⟨fun h=>e (Or.inl h),fun h=>e (Or.inr h)⟩
     unfold bI
     rcases hc' with rfl|rfl
     ·rw[if_neg (by decide),if_neg (by simp[show ah 39=false from rfl]),if_neg (by decide),if_pos (Or.inl rfl)]
     ·rw[if_neg (by decide),if_neg (by simp[show ah 34=false from rfl]),if_neg (by decide),if_pos (Or.inr rfl)]
    obtain⟨t,u',w2,h5,h6,a1,a2,a3⟩: ∃t u' w',d.drop m=aR t++w'∧s.drop p=aR t++u'∧(∀d r,u'=d::r→d≠39)∧(∀d r,w'=d::r→d≠39)∧BB u' w':=by
     have hbp:aF (s.drop p)=0:=by rw[hsp,aF,if_neg h32]
     rcases mb hB2 with⟨h5,_⟩|⟨x,u',w',h5,h6,b1,_⟩|⟨t,u',w',h5,h6,b1,b2,b3⟩
     ·rw[hw']at h5;cases h5
     ·rw[hw']at h5
      injection h5 with h5 _
      rw[←h5]at b1
      exact absurd b1 hq
     ·rw[hbp,List.drop_zero]at h6
      exact⟨t,u',w',h5,h6,b1,b2,b3⟩
    have ht: ∀r,aR t++r=39::(dbl t++([39]++r)):=by intro r;unfold aR;simp
    have hc39:c=39:=by rw[hsp,ht]at h6;injection h6
    have hql: ∀(r:List UInt8),(∀d r',r=d::r'→d≠39)→bE 39 (dbl t++([39]++r))=some (t,(dbl t).length+1):=by
     intro r hr
     have:=Kp (q:=39) _ (dbl t++[39]) (Nat.le_refl _) t ((dbl t).length+1) (nz t) r hr
     rw[List.take_of_length_le (by simp)]at this
     rw[←List.append_assoc];exact this
    have hdrop1: ∀(f:List UInt8) (i:Nat) (r:List UInt8),f.drop i=aR t++r→f.drop (i+1)=dbl t++([39]++r):=by
     intro f i r hf
     rw[←List.drop_drop,hf,ht]
     rfl
    have hqs: ∀(f:List UInt8) (i:Nat) (r:List UInt8),(f[i]?).getD 0=c→f.drop i=aR t++r→(∀d r',r=d::r'→d≠39)→cr f i=if 60<t.length then .error 8 else .ok (⟨1,6,aR t⟩,i+(aR t).length):=by
     intro f i r hf1 hf2 hr
     unfold cr
     rw[hf1,hc39,hdrop1 f i r hf2,hql r hr]
     simp only
     split
     ·rfl
     ·rw[jB]
      congr 2
      omega
    rw[hTq,hTq]
    unfold cS
    rw[hqs s p u' hs1 h6 a1,hqs d m w2 hd1 h5 a2]
    by_cases h60:60<t.length
    ·simp only[if_pos h60,Option.map_some,and_self]
    ·simp only[if_neg h60]
     have hls:p+(aR t).length≤s.length:=by
      have:=congrArg List.length h6
      rw[List.length_drop,List.length_append]at this
      omega
     have hld:m+(aR t).length≤d.length:=by
      have:=congrArg List.length h5
      rw[List.length_drop,List.length_append]at this
      omega
     have hct:=jB t
     refine ih (p+(aR t).length) (m+(aR t).length) k'' _ _ _ (by omega) hls (by omega) hld ?_
     rw[←List.drop_drop,h6,List.drop_left' rfl,←List.drop_drop,h5,List.drop_left' rfl]
     exact a3
theorem KB (hts:bp s=0)(htd:bp d=0)(hs: ∀b∈s,b≠0)(hd0: ∀b∈d,b≠0)(hn:noH d)(hB:BB s d):(bc true s).e=(bc true d).e∧ct true s=ct true d∧((bc true s).e=0→(bc true s).n=(bc true d).n):=by
 obtain⟨h1,h2⟩:=Hz hs hd0 hn (s.length+1) 0 0 (d.length+1) [] [] [] (by omega) (by omega) (by omega) (by omega) (by rw[List.drop_zero,List.drop_zero];exact hB)
 obtain⟨x,o,kp,hr⟩: ∃x o kp,bA true s (s.length+1) 0 [] []=(x,o,kp):=⟨_,_,_,rfl⟩
 obtain⟨x',o',kp',hr'⟩: ∃x o kp,bA true d (d.length+1) 0 [] []=(x,o,kp):=⟨_,_,_,rfl⟩
 rw[hr,hr']at h1 h2
 simp only at h1 h2
 subst h2
 have hsc:bc true s=(if(bF x).2=0 then(if 300<o.length then⟨o,kp,0,8⟩else⟨o,kp,o.length,0⟩)else⟨o,kp,(bF x).1,(bF x).2⟩):=by unfold bc;rw[if_pos hts,hr]
 have hdc:bc true d=(if(bF x').2=0 then(if 300<o.length then⟨o,kp',0,8⟩else⟨o,kp',o.length,0⟩)else⟨o,kp',(bF x').1,(bF x').2⟩):=by unfold bc;rw[if_pos htd,hr']
 have hx:(bF x).2=(bF x').2:=by
  cases x<;>cases x'<;>simp only[Option.map_none,Option.map_some,reduceCtorEq]at h1
  ·rfl
  ·injection h1
 unfold ct
 rw[hsc,hdc,hx]
 by_cases h0:(bF x').2=0
 ·rw[if_pos h0,if_pos h0]
  by_cases h3:300<o.length
  ·rw[if_pos h3,if_pos h3];exact⟨rfl,rfl,fun _=>rfl⟩
  ·rw[if_neg h3,if_neg h3];exact⟨rfl,rfl,fun _=>rfl⟩
 ·rw[if_neg h0,if_neg h0]
  refine⟨rfl,rfl,fun h=>absurd h h0⟩
end
theorem HI {u w:List UInt8}(h:BB u w)(hw: ∀b∈w,fN b): ∀b∈u,fN b:=by
 induction h with
 |nil=>exact hw
 |sp h ih=>
  intro b hb
  rcases List.mem_cons.1 hb with rfl|hb
  ·decide
  ·exact ih hw b hb
 |ch h1 h2 h3 h4 ih=>
  intro b hb
  rcases List.mem_cons.1 hb with rfl|hb
  ·exact hw _ (by simp)
  ·exact ih (fun b hb=>hw b (List.mem_cons_of_mem _ hb)) b hb
 |qt h1 h2 h3 ih=>
  intro b hb
  rcases List.mem_append.1 hb with hb|hb
  ·exact hw b (List.mem_append_left _ hb)
  ·exact ih (fun b hb=>hw b (List.mem_append_right _ hb)) b hb
theorem BJ {t:Tok}(h:VT t)(hc: ¬mL t): ∀b∈t.text,noQ b∧b≠32∧b≠104:=by
 have dg: ∀b:UInt8,ah b=true→noQ b∧b≠32∧b≠104:=by
  intro b hb
  refine⟨ot hb,?_,?_⟩<;>(rintro rfl;exact absurd hb (by decide))
 have l: ∀(w:List (List UInt8)),(∀x∈w,∀b∈x,noQ b∧b≠32∧b≠104)→ ∀a∈w,∀b∈a,noQ b∧b≠32∧b≠104:=fun w h=>h
 cases h with
 |name k=>
  rename_i a
  intro b hb
  obtain⟨_,_,h3,h4,_⟩:=ed k
  have hp:=h3 b hb
  have hlow:lG b=false:=by
   have:=(kG a).1 h4
   rw[List.any_eq_false]at this
   simpa using this b hb
  refine⟨EJ hp,?_,?_⟩
  ·rintro rfl;exact absurd hp (by decide)
  ·rintro rfl;exact absurd hlow (by decide)
 |int k1 k2=>exact fun b hb=>dg b ((dS k1).2.1 b hb)
 |real k=>
  rename_i W P ty p
  intro b hb
  rcases List.mem_append.1 (show b∈W++(46::(P++bj ty p))from hb)with h|h
  ·exact dg b (k.wd b h)
  ·rcases List.mem_cons.1 h with h|h
   ·rw[h];exact⟨⟨by decide,by decide⟩,by decide,by decide⟩
   ·rcases List.mem_append.1 h with h|h
    ·exact dg b (k.pd b h)
    ·rcases yq ty p b h with h|h|h|h
     ·rw[h];exact⟨⟨by decide,by decide⟩,by decide,by decide⟩
     ·rw[h];exact⟨⟨by decide,by decide⟩,by decide,by decide⟩
     ·rw[h];exact⟨⟨by decide,by decide⟩,by decide,by decide⟩
     ·exact dg b h
 |logic k=>rcases k with rfl|rfl<;>decide
 |chars k1 k2=>exact absurd ⟨rfl,rfl⟩ hc
 |word k=>rename_i a;exact(by decide: ∀w∈bT,∀b∈w,noQ b∧b≠32∧b≠104) a k
 |sign k=>rename_i a;exact(by decide: ∀w∈bm,∀b∈w,noQ b∧b≠32∧b≠104) a k
theorem RZ {t:Tok}(h:VT t)(hc:mL t): ∃u,t.text=aR u:=by
 cases h with
 |chars k1 k2=>exact⟨_,rfl⟩
 |name k=>exact absurd hc.1 (by show ¬(0:Int)=1;decide)
 |int k1 k2=>exact absurd hc.2 (by show ¬(0:Int)=6;decide)
 |real k=>
  have h1:=hc.2
  simp only at h1
  rcases k.ty with h|h<;>rw[h]at h1<;>exact absurd h1 (by decide)
 |logic k=>exact absurd hc.2 (by show ¬(5:Int)=6;decide)
 |word k=>exact absurd hc.1 (by show ¬(2:Int)=1;decide)
 |sign k=>exact absurd hc.1 (by show ¬(2:Int)=1;decide)
end Go.Abs
set_option linter.unusedVariables false
set_option linter.unusedSimpArgs false
set_option maxRecDepth 100000
namespace Go.Abs
open Go Go.Proofs
section
variable {s:List UInt8}{μ:Mu}
instance (t:Tok):Decidable (mL t):=by unfold mL;infer_instance
theorem Kz:(ct true s).length≤s.length:=MJ
end
end Go.Abs
set_option linter.unusedVariables false
set_option linter.unusedSimpArgs false
set_option maxRecDepth 100000
namespace Go.Abs
open Go Go.Proofs
section
variable {b:Mu}{a:CV}{bs:List UInt8}{r:Lam}
end
section
variable {μ:Mu}
def kc:Nat→List Tok→Nat×Int
 |_,[]=>(0,0)
 |n,t::l=>if lh t=0 then kc (n+1) l else(n,lh t)
def sB (l:List Tok):Nat×Int:=if 300<l.length then(0,8)else kc 0 l
theorem g9 {l:List Tok}{i:Nat}(h:i<l.length):bZ (aA l) (i:Int)=some (l[i]).cv:=by
 rw[ey]
 unfold aA
 rw[List.getElem?_map,List.getElem?_eq_getElem h]
 rfl
theorem fy {l:List Tok}:(aA l).length=l.length:=by simp[aA]
def Ly {α:Type}(f:Int→Int→Mu→α)(g:Mu→α)(μ:Mu)(q:Nat×Int):α:=if q.2=0 then g μ else f (q.1:Int) q.2 μ
theorem P8 {l:List Tok}(hl:l.length≤100000)(hs: ∀t∈l,t.text.length≤200000): ∀(k i:Nat),i+k=l.length→Fi (ev E) (aA l) (i:Int) μ=some (Ly uh ui μ (kc i (l.drop i))):=by
 intro k
 induction k with
 |zero=>
  intro i hi
  refine aW ?_
  rw[Eu,fy,c6 (by omega),cond_false,List.drop_eq_nil_of_le (by omega)]
  rfl
 |succ k ih=>
  intro i hi
  refine aW ?_
  have hlt:i<l.length:=by omega
  have hd:l.drop i=l[i]::l.drop (i+1):=List.drop_eq_getElem_cons hlt
  rw[Eu,fy,cI hlt,cond_true,g9 hlt,aa,bB,show CV.agg [CV.int .i64 (l[i]).kind,CV.int .i64 (l[i]).type,CV.str (l[i]).text]=(l[i]).cv from rfl,QZ (hs _ (List.getElem_mem hlt)),←MV]
  simp only[ad,aq,aa,am,ao,aj,ae,ak,az,cond_true,cond_false,Bool.not_true,Bool.not_false,av,au,ar]
  rw[bV (by omega),ih (i+1) (by omega),hd,kc]
  by_cases he:lh l[i]=0
  ·rw[if_pos he,decide_eq_true he];rfl
  ·rw[if_neg he,decide_eq_false he,Bool.not_false,cond_true]
   unfold Ly
   rw[if_neg he]
theorem Jj: ∀(n:Nat) (l:List Tok),(kc n l).2=0→(kc n l).1=0:=by
 intro n l
 induction l generalizing n with
 |nil=>intro _;rfl
 |cons t l ih=>
  unfold kc
  split
  ·exact ih (n+1)
  ·rename_i h;intro h2;exact absurd h2 h
theorem Q3 {l:List Tok}(hl:l.length≤100000)(hs: ∀t∈l,t.text.length≤200000):(ev E).call 21 [LV.cv (CV.sl (aA l))] μ=some (.ret (.ltup [LV.int .i64 ((sB l).1:Int),LV.int .i64 (sB l).2]) μ):=by
 refine aO ?_
 rw[Ss,fy]
 unfold sB
 by_cases h:300<l.length
 ·rw[if_pos h,decide_eq_true (by omega:(300:Int)<(l.length:Int))];rfl
 ·rw[if_neg h,decide_eq_false (by omega: ¬(300:Int)<(l.length:Int)),cond_false]
  have:=P8 (μ:=μ) hl hs l.length 0 (by omega)
  rw[List.drop_zero,show ((0:Nat):Int)=0 from rfl]at this
  have hG:M7 (ev E) (aA l) μ=some (pe ((kc 0 l).1:Int) (kc 0 l).2 μ):=by
   refine aZ ?_
   rw[OH,this,aa]
   unfold Ly
   by_cases h0:(kc 0 l).2=0
   ·rw[if_pos h0,h0,Jj 0 l h0];exact GN _ _
   ·rw[if_neg h0];exact GM _ _ _ _
  rw[hG,aa,Gm]
theorem Oc: ∀(n:Nat) (l:List Tok),(kc n l).2=0↔ ∀t∈l,VT t:=by
 intro n l
 induction l generalizing n with
 |nil=>simp[kc]
 |cons t l ih=>
  unfold kc
  by_cases h:lh t=0
  ·rw[if_pos h,ih (n+1)]
   simp[BH.1 h]
  ·rw[if_neg h]
   constructor
   ·intro h2;exact absurd h2 h
   ·intro h2;exact absurd (BH.2 (h2 t (by simp))) h
theorem LP {l:List Tok}:(sB l).2=0↔l.length≤300∧ ∀t∈l,VT t:=by
 unfold sB
 by_cases h:300<l.length
 ·rw[if_pos h]
  constructor
  ·intro h2;exact absurd h2 (by decide)
  ·intro h2;omega
 ·rw[if_neg h,Oc]
  constructor
  ·intro h2;exact⟨by omega,h2⟩
  ·intro h2;exact h2.2
end
end Go.Abs
set_option linter.unusedVariables false
set_option linter.unusedSimpArgs false
set_option maxRecDepth 100000
namespace Go.Abs
open Go Go.Proofs
section
variable {μ:Mu}{l:List Tok}
end
end Go.Abs
set_option linter.unusedVariables false
set_option linter.unusedSimpArgs false
set_option maxRecDepth 100000
namespace Go.Abs
open Go Go.Proofs
section
variable {v:List UInt8}
end
end Go.Abs
set_option linter.unusedVariables false
set_option linter.unusedSimpArgs false
set_option maxRecDepth 100000
namespace Go.Abs
open Go Go.Proofs
section
variable {μ:Mu}{l:List Tok}{s:List UInt8}
def FK (l:List Tok):Bool:= !(decide (60<l.length)&&decide (l.length≤300)||decide (302<l.length))&&l.all fun t=>decide (t.text.length≤130)
theorem P7 (hl:l.length≤100000): ∀(k i:Nat),i+k=l.length→Fh (ev E) (aA l) (i:Int) μ=some (if(l.drop i).all (fun t=>decide (t.text.length≤130))then ug μ else uf false μ):=by
 intro k
 induction k with
 |zero=>
  intro i hi
  refine aW ?_
  rw[Et,fy,c6 (by omega),cond_false,List.drop_eq_nil_of_le (by omega)]
  rfl
 |succ k ih=>
  intro i hi
  refine aW ?_
  have hlt:i<l.length:=by omega
  have hd:l.drop i=l[i]::l.drop (i+1):=List.drop_eq_getElem_cons hlt
  rw[Et,fy,cI hlt,cond_true,g9 hlt,aa,bB,bV (by omega),ih (i+1) (by omega),hd,List.all_cons]
  by_cases h:(l[i]).text.length≤130
  ·rw[decide_eq_true h,decide_eq_false (by omega: ¬(130:Int)<((l[i]).text.length:Int)),cond_false,Bool.true_and]
  ·rw[decide_eq_false h,decide_eq_true (by omega:(130:Int)<((l[i]).text.length:Int)),cond_true,Bool.false_and,if_neg (by simp)]
theorem Q2 (hl:l.length≤100000):(ev E).call 20 [LV.cv (CV.sl (aA l))] μ=some (.ret (LV.bool (FK l)) μ):=by
 refine aO ?_
 have hG:(opt (yH (ev E) (aA l) μ) (kB (ev E) 20 H20 []))=some (.ret (LV.bool (l.all fun t=>decide (t.text.length≤130))) μ):=by
  have:yH (ev E) (aA l) μ=some (pc (l.all fun t=>decide (t.text.length≤130)) μ):=by
   refine aZ ?_
   have:=P7 (μ:=μ) hl l.length 0 (by omega)
   rw[List.drop_zero,show ((0:Nat):Int)=0 from rfl]at this
   rw[OG,this,aa]
   cases hq:l.all fun t=>decide (t.text.length≤130)with
   |true=>rw[if_pos rfl];exact GL _ _
   |false=>rw[if_neg (by simp)];exact GK _ _ _
  rw[this,aa,Gl]
 rw[Sr,fy,hG]
 unfold FK
 by_cases h1:60<l.length
 ·rw[decide_eq_true h1,decide_eq_true (by omega:(60:Int)<(l.length:Int)),cond_true]
  by_cases h2:l.length≤300
  ·rw[decide_eq_true h2,decide_eq_true (by omega:(l.length:Int)≤300)];rfl
  ·rw[decide_eq_false h2,decide_eq_false (by omega: ¬(l.length:Int)≤300),cond_false]
   by_cases h3:302<l.length
   ·rw[decide_eq_true h3,decide_eq_true (by omega:(302:Int)<(l.length:Int))];rfl
   ·rw[decide_eq_false h3,decide_eq_false (by omega: ¬(302:Int)<(l.length:Int)),cond_false];simp
 ·rw[decide_eq_false h1,decide_eq_false (by omega: ¬(60:Int)<(l.length:Int)),cond_false,decide_eq_false (by omega: ¬(302:Int)<(l.length:Int)),decide_eq_false (by omega: ¬302<l.length),cond_false]
  simp
end
end Go.Abs
