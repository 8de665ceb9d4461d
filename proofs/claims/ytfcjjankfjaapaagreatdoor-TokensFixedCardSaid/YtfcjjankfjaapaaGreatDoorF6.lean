/-
  The statement TokensFixedCardSaid, proved; part 7 of 7 of its proof.
  The reference's next token is the program's.
  The chapter's examples, by running the interpreter.
  The tokens of any text in free form.
  Which names, constants and tokens are valid: the two ways in which it is asked.
  The reference's errors of constants and tokens.
  Both ways to ask which constants and tokens are valid answer the same.
  TokensChecks: which constants and tokens are valid.
  TokensConstants: the constant that a text is, the characters of a constant, and the constant of characters.
  REAL and DOUBLE constants: their canonical texts.
  Tokens at the beginning of a list of characters, in free form.
  Two ways to read that agree character by character read the same tokens.
  Fixed form: the characters that count, up to a quote, and their places.
  Fixed form: the reference's small functions, and the program's text without blanks.
  Fixed form: the reference's steps are the program's.
  Fixed form: the reference's split.
  Canonical texts of tokens, read at the beginning of a longer text.
  A text without blanks is split into the same tokens, and loses nothing more.
  TokensFixed: the law.
  The library's functions that are taken by contract: the builder's copy check and its text.
  TokensFixed answers true for every argument, and its arguments read as they did.
-/
import Derived.Test.YtfcjjankfjaapaaGreatDoorF5
import Derived.Test.YtfcjjankfjaapaaGreatDoorF2
import Derived.KernelRfl
import Derived.Test.YtfcjjankfjaapaaGreatDoorF3
import Derived.Shelf.Strings.BuilderK
import Derived.Test.YtfcjjankfjaapaaGreatDoorCards
import Derived.Test.YtfcjjankfjaapaaGreatDoorTie
import Derived.WalkKit
import Derived.OpenShut
set_option linter.all false
set_option linter.unusedSectionVars false
set_option linter.unusedVariables false
set_option linter.unusedSimpArgs false
set_option maxRecDepth 100000
namespace Go.Abs
open Go Go.Proofs
def iV:Except Int (Tok×Nat×List Nat)→Except Int (Tok×Nat)
 | .ok q=> .ok (q.1,q.2.1)
 | .error e=> .error e
section
variable {s:List UInt8}{n:Nat}
theorem yA (q:Except Int (Tok×Nat)):iV (noK q)=q:=by cases q<;>rfl
theorem yB:iV (cr s n)=dV s n:=by
 unfold cr
 cases dV s n<;>rfl
theorem r5: ∀w∈dq,w≠eZ∧w≠eq:=by decide
theorem jM {w:List UInt8}(hw:w∈ci)(hb:bu s n w=true):w=cF false s n:=((ig (jY w hw) hb).2.1).symm
theorem we {l:List (List UInt8)}{p:List UInt8→Bool}{w:List UInt8}(hm:w∈l)(hp:p w=true)(hu: ∀x∈l,p x=true→x=w):l.find? p=some w:=by
 cases hf:l.find? p with
 |none=>
  rw[List.find?_eq_none]at hf
  exact absurd hp (hf w hm)
 |some x=>
  have h1:=List.find?_some hf
  have h2:=List.mem_of_find?_eq_some hf
  rw[hu x h2 h1]
theorem p5 {l:List (List UInt8)}{p:List UInt8→Bool}(h: ∀x∈l,p x=false):l.find? p=none:=by
 rw[List.find?_eq_none]
 intro x hx
 rw[h x hx]
 simp
theorem qi {w:List UInt8}(h:w∈dq):w∈ci:=by rw[ie];exact List.mem_append_left _ h
theorem wt {w:List UInt8}(h:w∈([eZ,eq]:List (List UInt8))):w∈ci:=by rw[ie];exact List.mem_append_right _ h
theorem L3 (h:atC false s n=46):rq s n=if(bI false s n).2.2 then .ok (eC (bI false s n).1,(bI false s n).2.1)else .error 7:=by
 have e:bI false s n=(cF false s n,dotEnd false s n,gM false s n):=by unfold bI;rw[if_pos h]
 have hany:=F3 h
 rw[e]at hany ⊢
 simp only at hany ⊢
 unfold rq xc
 cases hok:gM false s n with
 |false=>
  rw[hok]at hany
  have hno: ∀w∈ci,bu s n w=false:=by
   intro w hw
   cases hb:bu s n w with
   |false=>rfl
   |true=>
    have:ci.any (bu s n)=true:=List.any_eq_true.2 ⟨w,hw,hb⟩
    rw[hany]at this;cases this
  rw[p5 (fun x hx=>hno x (qi hx)),p5 (fun x hx=>hno x (wt hx))]
  rfl
 |true=>
  rw[hok]at hany
  rw[List.any_eq_true]at hany
  obtain⟨w,hw,hb⟩:=hany
  have hT:=jM hw hb
  have hE:=(ig (jY w hw) hb).2.2.2
  rw[←hT,hE]
  rw[ie,List.mem_append]at hw
  simp only[if_true]
  rcases hw with hw|hw
  ·rw[we hw hb (fun x hx hp=>by rw[jM (qi hx) hp,←hT])]
   have:=r5 w hw
   unfold eC
   rw[if_neg (by intro hh;rcases hh with hh|hh;exact this.1 hh;exact this.2 hh)]
  ·rw[p5 (fun x hx=> ?_),we hw hb (fun x hx hp=>by rw[jM (wt hx) hp,←hT])]
   ·unfold eC
    rw[if_pos (by simpa using hw)]
   ·cases hbx:bu s n x with
    |false=>rfl
    |true=>
     have h1:=jM (qi hx) hbx
     rw[←hT]at h1
     have:=r5 x hx
     rw[h1]at this
     simp only[List.mem_cons,List.not_mem_nil,or_false]at hw
     rcases hw with hw|hw
     ·exact absurd hw this.1
     ·exact absurd hw this.2
theorem AB {c:UInt8}(h:bD c=true):c.toNat<128:=by
 unfold bD at h
 simp only[Bool.or_eq_true,decide_eq_true_eq]at h
 rcases h with(h|h)|h
 ·exact jP h
 ·have:=ed.1 h;omega
 ·omega
theorem Nt:up (bk false bD s n)=((s.drop n).takeWhile bD).map upB:=by
 rw[kz yR]
 exact lO _ fun b hb=>AB (io _ b hb)
def beg (c:UInt8)(d:Option UInt8):List UInt8→Bool
 |[x]=>decide (c=x)
 |[x,y]=>decide (c=x)&&decide (d=some y)
 |_=>false
theorem Ab: ∀i:Fin 256,bo (UInt8.ofNat i.val)=false→upB (UInt8.ofNat i.val)=UInt8.ofNat i.val:=by decide
theorem Aa {c:UInt8}(h:bo c=false):upB c=c:=by
 have:=Ab ⟨c.toNat,c.toNat_lt⟩
 simpa[h]using this
theorem Ac: ∀i:Fin 256,∀y∈([61,42,47,62]:List UInt8),(upB (UInt8.ofNat i.val)=y↔UInt8.ofNat i.val=y):=by decide
theorem J1 {c y:UInt8}(hy:y∈([61,42,47,62]:List UInt8)):upB c=y↔c=y:=by
 have:=Ac ⟨c.toNat,c.toNat_lt⟩ y hy
 simpa using this
theorem KV {c x:UInt8}(h:s[n]? =some c)(hl:bo c=false):bu s n [x]=beg c s[n+1]? [x]:=by
 have hn:=cM h
 rw[List.getElem?_eq_getElem hn]at h
 injection h with h
 unfold bu beg
 rw[List.drop_eq_getElem_cons hn,h]
 simp only[List.length_singleton,List.take_succ_cons,List.take_zero,List.map_cons,List.map_nil,Aa hl]
 have:decide (n+1≤s.length)=true:=by simp;omega
 rw[this,Bool.true_and]
 simp
theorem KW {c x y:UInt8}(h:s[n]? =some c)(hl:bo c=false)(hy:y∈([61,42,47,62]:List UInt8)):bu s n [x,y]=beg c s[n+1]? [x,y]:=by
 have hn:=cM h
 rw[List.getElem?_eq_getElem hn]at h
 injection h with h
 unfold bu beg
 simp only[List.length_cons,List.length_nil]
 by_cases h2:n+1<s.length
 ·have:decide (n+(0+1+1)≤s.length)=true:=by simp;omega
  rw[this,Bool.true_and,List.drop_eq_getElem_cons hn,List.drop_eq_getElem_cons h2,List.getElem?_eq_getElem h2,h]
  simp only[List.take_succ_cons,List.take_zero,List.map_cons,List.map_nil,Aa hl]
  have:=J1 (c:=s[n+1]) hy
  by_cases h3:s[n+1]=y
  ·rw[this.2 h3,h3];simp
  ·have h4:upB s[n+1]≠y:=fun hh=>h3 (this.1 hh)
   simp[h3,h4]
 ·have:decide (n+(0+1+1)≤s.length)=false:=by simp;omega
  rw[this,List.getElem?_eq_none (by omega)]
  simp
def pU:List (List UInt8×List UInt8):=kJ++k9 bX
theorem GT (l m:List (List UInt8×List UInt8)): ∀r,ew s n (l++m) r=ew s n m (ew s n l r):=by
 induction l with
 |nil=>intro r;rfl
 |cons x l ih=>intro r;rw[List.cons_append,ew,ew,ih]
def q7 (c:UInt8)(d:Option UInt8)(n:Nat):List (List UInt8×List UInt8)→Except Int (Tok×Nat)→Except Int (Tok×Nat)
 |[],r=>r
 |x::l,r=>q7 c d n l (if beg c d x.1=true∧toE r<n+x.1.length then .ok (⟨2,0,x.2⟩,n+x.1.length)else r)
def Dg (x:List UInt8):Bool:=match x with|[_]=>true|[_,y]=>([61,42,47,62]:List UInt8).contains y|_=>false
theorem yL {c:UInt8}(h:s[n]? =some c)(hl:bo c=false): ∀(l:List (List UInt8×List UInt8)) (r:Except Int (Tok×Nat)),(∀x∈l,Dg x.1=true)→ew s n l r=q7 c s[n+1]? n l r
 |[],r,_=>rfl
 |x::l,r,hs=>by
  have hx:=hs x List.mem_cons_self
  have hb:bu s n x.1=beg c s[n+1]? x.1:=by
   obtain⟨x1,x2⟩:=x
   simp only at hx ⊢
   match x1,hx with
   |[a],_=>exact KV h hl
   |[a,y],hy=>exact KW h hl (List.contains_iff_mem.1 hy)
  rw[ew,q7,hb,yL h hl l _ (fun y hy=>hs y (List.mem_cons_of_mem _ hy))]
theorem xX: ∀x∈pU,Dg x.1=true:=by decide
def opC (c:UInt8)(d:Option UInt8)(n:Nat):Except Int (Tok×Nat):=
 match eS [c,d.getD 0]with
 |some w=> .ok (⟨2,0,w⟩,n+2)
 |none=>if d.getD 0≠0∧bX.contains [c,d.getD 0]then .ok (⟨2,0,[c,d.getD 0]⟩,n+2)
  else match eS [c]with
   |some w=> .ok (⟨2,0,w⟩,n+1)
   |none=>if bX.contains [c]then .ok (⟨2,0,[c]⟩,n+1)else .error 7
theorem wJ {a b:UInt8}{w:List UInt8}(h:eS [a,b]=some w):b=61:=by
 unfold eS at h
 simp only[List.cons.injEq,and_true]at h
 split at h
 ·rename_i h1;exact h1.2
 ·split at h
  ·rename_i h1;exact h1.2
  ·split at h
   ·rename_i h1;exact h1.2
   ·split at h
    ·rename_i h1;exact h1.2
    ·simp at h
theorem Na {c:UInt8}(h:s[n]? =some c)(hc:c≠32):ex false s n=opC c s[n+1]? n:=by
 obtain⟨ha,hb⟩:=e8 (fx:=false) h hc
 unfold ex opC
 simp only[ha,hb,cR,dk]
 by_cases h2:n+1<s.length
 ·rw[if_pos h2]<;>(cases eS [c,(s[n+1]?).getD 0]<;>rfl)
 ·rw[if_neg h2,List.getElem?_eq_none (by omega)]
  cases hsp:eS [c,(none:Option UInt8).getD 0]with
  |some w=>exact absurd (wJ hsp) (by decide)
  |none=>
   simp only[Option.getD_none,ne_eq,not_true_eq_false,false_and,if_false]<;>(cases eS [c]<;>rfl)
theorem Lf (c:UInt8)(d:Option UInt8)(n:Nat):q7 c d n pU (.error 7)=opC c d n:=by
 have hd:d=none∨d=some 61∨d=some 42∨d=some 47∨d=some 62∨ ∃x,d=some x∧x≠61∧x≠42∧x≠47∧x≠62:=by
  cases d with
  |none=>exact Or.inl rfl
  |some x=>
   by_cases h1:x=61
   ·exact Or.inr (Or.inl (by rw[h1]))
   ·by_cases h2:x=42
    ·exact Or.inr (Or.inr (Or.inl (by rw[h2])))
    ·by_cases h3:x=47
     ·exact Or.inr (Or.inr (Or.inr (Or.inl (by rw[h3]))))
     ·by_cases h4:x=62
      ·exact Or.inr (Or.inr (Or.inr (Or.inr (Or.inl (by rw[h4])))))
      ·exact Or.inr (Or.inr (Or.inr (Or.inr (Or.inr ⟨x,rfl,h1,h2,h3,h4⟩))))
 have hL: ∀(x:UInt8),x∈([60,62,61,47,42,43,45,40,41,44,58,37]:List UInt8)∨x ∉([60,62,61,47,42,43,45,40,41,44,58,37]:List UInt8):=fun x=>Classical.em _
 rcases hL c with hm|hm
 ·simp only[List.mem_cons,List.not_mem_nil,or_false]at hm
  rcases hm with rfl|rfl|rfl|rfl|rfl|rfl|rfl|rfl|rfl|rfl|rfl|rfl<;>rcases hd with rfl|rfl|rfl|rfl|rfl|⟨x,rfl,h1,h2,h3,h4⟩<;>
   simp[q7,pU,kJ,k9,bX,beg,toE,opC,eS, *]
 ·simp only[List.mem_cons,List.not_mem_nil,or_false,not_or]at hm
  obtain⟨n1,n2,n3,n4,n5,n6,n7,n8,n9,n10,n11,n12⟩:=hm
  simp[q7,pU,kJ,k9,bX,beg,toE,opC,eS,n1,n2,n3,n4,n5,n6,n7,n8,n9,n10,n11,n12]
theorem KX {c:UInt8}(h:s[n]? =some c)(hc:c≠32)(hl:bo c=false):oa s n=ex false s n:=by
 have e:oa s n=ew s n pU (.error 7):=(GT kJ (k9 bX) _).symm
 rw[e,yL h hl _ _ xX,Lf,Na h hc]
theorem Ly {c:UInt8}(h:s[n]? =some c)(hc:c≠32):xi s n c=iV (bg false s n c):=by
 obtain⟨ha,hb⟩:=e8 (fx:=false) h hc
 unfold xi bg
 by_cases hl:bo c=true
 ·rw[if_pos hl,if_pos hl,Nt,kz yR,mv yR]
  split<;>rfl
 ·rw[if_neg hl,if_neg hl]
  have hl':bo c=false:=by simpa using hl
  have e2:atC false s (n+1)=(s[n+1]?).getD 0:=rfl
  rw[e2]
  by_cases hd:(aw c||(decide (c=46)&&aw ((s[n+1]?).getD 0)))=true
  ·rw[if_pos hd,if_pos hd,yA]
   refine EX h ?_
   rw[Bool.or_eq_true,Bool.and_eq_true,decide_eq_true_eq]at hd
   exact hd
  ·rw[if_neg hd,if_neg hd]
   by_cases h46:c=46
   ·rw[if_pos h46,if_pos h46,L3 (by rw[ha,h46])]
    split<;>rfl
   ·rw[if_neg h46,if_neg h46]
    by_cases hq:c=39∨c=34
    ·rw[if_pos hq,if_pos hq,yB]
    ·rw[if_neg hq,if_neg hq,yA,KX h hc hl']
def mh {α:Type}:Except Int α→Prop
 | .ok _=>True
 | .error e=>e=4∨e=7∨e=8∨e=28
theorem yG {q:Except Int (Tok×Nat)}(h:mh q):mh (noK q):=by cases q<;>exact h
theorem uy:mh (dV s n):=by
 unfold dV
 split
 ·exact Or.inr (Or.inl rfl)
 ·split
  ·exact Or.inr (Or.inr (Or.inl rfl))
  ·trivial
theorem JM {whole part digits:List UInt8}{letter:UInt8}{ok:Bool}{e:Nat}:mh (fj whole part digits letter ok e):=by
 unfold fj
 split
 ·exact Or.inr (Or.inl rfl)
 ·trivial
theorem EY {fx:Bool}:mh (dA fx s n):=by
 unfold dA
 simp only
 split
 ·unfold de
  split
  ·exact trivial
  ·rename_i e he
   split at he
   ·injection he with he
    subst he
    exact Or.inr (Or.inr (Or.inr rfl))
   ·cases he
 ·exact JM
theorem Nb {fx:Bool}:mh (ex fx s n):=by
 unfold ex
 simp only
 split
 ·trivial
 ·split
  ·trivial
  ·split
   ·trivial
   ·split
    ·trivial
    ·exact Or.inr (Or.inl rfl)
theorem wL {fx:Bool}{out:List Tok}:mh (bx fx s out n):=by
 unfold bx
 split
 ·unfold jw
  split
  ·exact Or.inr (Or.inl rfl)
  ·trivial
 ·unfold bg
  split
  ·split
   ·exact Or.inl rfl
   ·trivial
  ·split
   ·exact yG EY
   ·split
    ·split
     ·trivial
     ·exact Or.inr (Or.inl rfl)
    ·split
     ·have:=uy (s:=s) (n:=n)
      unfold cr
      cases hq:dV s n with
      |ok q=>trivial
      |error e=>rw[hq]at this;exact this
     ·exact yG Nb
end
end Go.Abs
set_option linter.unusedVariables false
set_option maxRecDepth 100000
namespace Go.Abs
open Go Go.Proofs
theorem CT (E:Env): ∀n,LimR (evn E) (evn E n)
 |0=>⟨fun f args μ r h=>(by simp[evn]at h),fun H lv c s μ r h=>(by simp[evn]at h),fun H lv c s μ r h=>(by simp[evn]at h),fun f pv args μ r h=>(by simp[evn]at h)⟩
 |n+1=>by
  have ih:=CT E n
  refine⟨fun f args μ r h=> ?_,fun H lv c s μ r h=> ?_,fun H lv c s μ r h=> ?_,fun f pv args μ r h=> ?_⟩
  ·obtain⟨N,hN⟩:=qd ih (E:=E) (f:=f) (args:=args) (μ:=μ) r h
   refine⟨N+1,fun m hm=> ?_⟩
   obtain⟨q,rfl⟩: ∃q,m=q+1:=⟨m-1,by omega⟩
   exact hN q (by omega)
  ·obtain⟨N,hN⟩:=ue ih (P:=E.P) (H:=H) (lv:=lv) (c:=c) (s:=s) (μ:=μ) r h
   refine⟨N+1,fun m hm=> ?_⟩
   obtain⟨q,rfl⟩: ∃q,m=q+1:=⟨m-1,by omega⟩
   exact hN q (by omega)
  ·obtain⟨N,hN⟩:=yV ih (P:=E.P) (H:=H) (lv:=lv) (c:=c) (s:=s) (μ:=μ) r h
   refine⟨N+1,fun m hm=> ?_⟩
   obtain⟨q,rfl⟩: ∃q,m=q+1:=⟨m-1,by omega⟩
   exact hN q (by omega)
  ·obtain⟨N,hN⟩:=oV ih (E:=E) (f:=f) (pv:=pv) (args:=args) (μ:=μ) r h
   refine⟨N+1,fun m hm=> ?_⟩
   obtain⟨q,rfl⟩: ∃q,m=q+1:=⟨m-1,by omega⟩
   exact hN q (by omega)
theorem Mh {E:Env}{n:Nat}{f:FuncId}{args:List LV}{μ:Mu}{out:Out}(h:(evn E n).call f args μ=some out):(ev E).call f args μ=some out:=
 lC ((CT E n).call f args μ out h)
theorem F5:(evn E 150).call 11 [] []=some (.ret (LV.bool true) []):=by kernel_rfl
theorem NC:(ev E).call 11 [] []=some (.ret (LV.bool true) []):=Mh F5
end Go.Abs
set_option linter.unusedVariables false
set_option linter.unusedSimpArgs false
set_option maxRecDepth 100000
namespace Go.Abs
open Go Go.Proofs
section
variable {μ:Mu}{s:List UInt8}
theorem uG {out:List Tok}{n:Nat}:bx false s out n=bg false s n ((s[n]?).getD 0):=by
 unfold bx fI
 rfl
theorem qD {fx:Bool}: ∀(k n:Nat) (out:List Tok) (kept:List Nat) (m:Nat) (e:Int),(bG fx s k n out kept).1=some (m,e)→e≠0
 |0,n,out,kept,m,e,h=>by simp[bG]at h
 |k+1,n,out,kept,m,e,h=>by
  unfold bG at h
  split at h
  ·cases h
  ·have he:=wL (s:=s) (n:=n+aK (s.drop n)) (fx:=fx) (out:=out)
   cases ht:bx fx s out (n+aK (s.drop n))with
   |error x=>
    rw[ht]at h he
    simp only[Option.some.injEq,Prod.mk.injEq]at h
    obtain⟨_,rfl⟩:=h
    rcases he with h|h|h|h<;>rw[h]<;>decide
   |ok q=>
    rw[ht]at h
    exact qD k _ _ _ m e h
theorem wK {fx:Bool}: ∀(k n:Nat) (out:List Tok) (kept:List Nat),out.length≤n→n≤s.length→(bG fx s k n out kept).2.1.length≤s.length
 |0,n,out,kept,h1,h2=>by unfold bG;simp only;omega
 |k+1,n,out,kept,h1,h2=>by
  unfold bG
  split
  ·simp only;omega
  ·rename_i hm
   obtain⟨c,hc1,hc2⟩:=gK (s:=s) (n:=n) (by omega)
   have hf:=dL (fx:=fx) (out:=out) hc1 hc2
   cases ht:bx fx s out (n+aK (s.drop n))with
   |error e=>simp only;omega
   |ok q=>
    rw[ht]at hf
    obtain⟨f1,f2,f3⟩:=hf
    exact wK k q.2.1 _ _ (by simp;omega) f2
theorem JP {fx:Bool}:(bB fx s).length≤s.length:=by
 unfold bB a6
 have:=wK (s:=s) (fx:=fx) (s.length+1) 0 [] [] (by simp) (by omega)
 split
 ·split
  ·simp only
   split
   ·split<;>exact this
   ·exact this
  ·simp
 ·simp
theorem F8 (h:tM s=true):s.length≤1340:=by
 unfold tM at h
 simp only[Bool.or_eq_true,Bool.and_eq_true,decide_eq_true_eq]at h
 omega
end
end Go.Abs
set_option linter.unusedVariables false
set_option linter.unusedSimpArgs false
set_option maxRecDepth 100000
namespace Go.Abs
open Go Go.Proofs
section
variable {μ:Mu}{s:List UInt8}
theorem MQ {l:List (List UInt8)}{x:List UInt8}(hl:l.length≤1000000): ∀(k j:Nat) (b:Bool),j+k=l.length→
  w6 (ev E) x b (bj l) (l.length:Int) (j:Int) μ=some (sI (b||(l.drop j).contains x) μ):=by
 intro k
 induction k with
 |zero=>
  intro j b hj
  refine aV ?_
  rw[C6,cS (by omega),cond_false]
  have:l.drop j=[]:=List.drop_eq_nil_of_le (by omega)
  rw[this]
  simp
 |succ k ih=>
  intro j b hj
  refine aV ?_
  have hlt:j<l.length:=by omega
  have hd:l.drop j=l[j]::l.drop (j+1):=List.drop_eq_getElem_cons hlt
  have hg:(bj l)[j]? =some (CV.str l[j]):=by simp[bj,hlt]
  rw[C6,cN hlt,cond_true,c6,hg,aa,gn,aa,bQ (by omega),ih (j+1) _ (by omega),ih (j+1) _ (by omega),hd,List.contains_cons]
  have e:(x == l[j])=decide (l[j]=x):=by
   by_cases h:l[j]=x
   ·simp[h]
   ·have: ¬x=l[j]:=fun e=>h e.symm
    simp[h,this]
  rw[e]
  cases b<;>simp
end
end Go.Abs
set_option linter.unusedVariables false
set_option linter.unusedSimpArgs false
set_option maxRecDepth 100000
namespace Go.Abs
open Go Go.Proofs
section
variable {μ:Mu}{s:List UInt8}
end
end Go.Abs
set_option linter.unusedVariables false
set_option linter.unusedSimpArgs false
namespace Go.Abs
open Go Go.Proofs
section
variable {s:List UInt8}{fx:Bool}{n:Nat}
end
end Go.Abs
set_option linter.unusedVariables false
set_option linter.unusedSimpArgs false
set_option maxRecDepth 100000
namespace Go.Abs
open Go Go.Proofs
end Go.Abs
set_option linter.unusedVariables false
set_option linter.unusedSimpArgs false
set_option maxRecDepth 100000
namespace Go.Abs
open Go Go.Proofs
theorem tk {s:List UInt8}:ek s=true↔ ∀b∈s,32≤b.toNat∧b.toNat≤126:=by
 unfold ek
 rw[Bool.not_eq_true',List.any_eq_false]
 constructor
 ·intro h b hb
  have:=h b hb
  simp only[Bool.or_eq_true,decide_eq_true_eq,not_or]at this
  omega
 ·intro h b hb
  have:=h b hb
  simp only[Bool.or_eq_true,decide_eq_true_eq,not_or]
  omega
section
variable {μ:Mu}{s:List UInt8}
def mid (s:List UInt8):List UInt8:=(s.drop 1).take (s.length-2)
end
end Go.Abs
set_option linter.unusedVariables false
set_option linter.unusedSimpArgs false
namespace Go.Abs
open Go Go.Proofs
structure RealOK (W P:List UInt8) (ty p:Int):Prop where
 wd: ∀b∈W,aw b=true
 wl:xf W
 pd: ∀b∈P,aw b=true
 pl:xf P.reverse
 cnt:countR W+countR P≤30
 p1: -999≤p
 p2:p≤999
 ty:ty=1∨ty=2
section
variable {s:List UInt8}{n:Nat}
end
section
variable {W P:List UInt8}{ty p:Int}
end
end Go.Abs
set_option linter.unusedVariables false
set_option linter.unusedSimpArgs false
namespace Go.Abs
open Go Go.Proofs
def rd (u:List UInt8):Except Int (Tok×Nat):=iV (bg false u 0 ((u[0]?).getD 0))
section
variable {s:List UInt8}{m:Nat}
theorem oh {q:Except Int (Tok×Nat)}:iV (noK q)=q:=by cases q<;>rfl
end
inductive Lex:List UInt8→List Tok→Prop
 |nil {u}:u.drop (aK u)=[]→Lex u []
 |cons {u v t e l}:u.drop (aK u)=v→v≠[]→rd v= .ok (t,e)→Lex (v.drop e) l→Lex u (t::l)
section
variable {s:List UInt8}
end
end Go.Abs
set_option linter.unusedVariables false
set_option linter.unusedSimpArgs false
namespace Go.Abs
open Go Go.Proofs
def noQ (c:UInt8):Prop:=c≠39∧c≠34
structure Sim (f1:Bool) (s1:List UInt8) (f2:Bool) (s2:List UInt8) (R:Nat→Nat→Prop):Prop where
 ch: ∀i j,R i j→atC f1 s1 i=atC f2 s2 j
 nx: ∀i j,R i j→atC f1 s1 i≠0→noQ (atC f1 s1 i)→R (atE f1 s1 i) (atE f2 s2 j)
def Il (R:Nat→Nat→Prop):Except Int (Tok×Nat)→Except Int (Tok×Nat)→Prop
 | .ok p,.ok q=>p.1=q.1∧R p.2 q.2
 | .error x,.error y=>x=y
 |_,_=>False
theorem Lo {c:UInt8}(h:bo c=true):noQ c:=by constructor<;>(rintro rfl;exact absurd h (by decide))
theorem q5 {c:UInt8}(h:aw c=true):noQ c:=by constructor<;>(rintro rfl;exact absurd h (by decide))
theorem LR {c:UInt8}(h:bD c=true):noQ c:=by constructor<;>(rintro rfl;exact absurd h (by decide))
section
variable {f1 f2:Bool}{s1 s2:List UInt8}{R:Nat→Nat→Prop}
theorem LU (S:Sim f1 s1 f2 s2 R){p:UInt8→Bool}(hp: ∀c,p c=true→noQ c): ∀(m i j:Nat),s1.length-i≤m→R i j→bk f1 p s1 i=bk f2 p s2 j∧R (runE f1 p s1 i) (runE f2 p s2 j):=by
 intro m
 induction m with
 |zero=>
  intro i j hm h
  have h0:atC f1 s1 i=0:=by
   refine Classical.byContradiction fun h0=> ?_
   have:=tH h0
   omega
  obtain⟨a,b⟩:=fM (fx:=f1) (s:=s1) (p:=p) (n:=i) (by rw[h0];rfl)
  obtain⟨c,d⟩:=fM (fx:=f2) (s:=s2) (p:=p) (n:=j) (by rw[←S.ch i j h,h0];rfl)
  rw[a,b,c,d]
  exact⟨rfl,h⟩
 |succ m ih=>
  intro i j hm h
  have hc:=S.ch i j h
  cases hq:(atC f1 s1 i != 0&&p (atC f1 s1 i))with
  |false=>
   obtain⟨a,b⟩:=fM (fx:=f1) (s:=s1) (p:=p) (n:=i) hq
   obtain⟨c,d⟩:=fM (fx:=f2) (s:=s2) (p:=p) (n:=j) (by rw[←hc];exact hq)
   rw[a,b,c,d]
   exact⟨rfl,h⟩
  |true=>
   obtain⟨a,b⟩:=gB (fx:=f1) (s:=s1) (p:=p) (n:=i) hq
   obtain⟨c,d⟩:=gB (fx:=f2) (s:=s2) (p:=p) (n:=j) (by rw[←hc];exact hq)
   rw[Bool.and_eq_true]at hq
   have h0:atC f1 s1 i≠0:=by simpa using hq.1
   have hg:=tH h0
   obtain⟨k1,k2⟩:=ih _ _ (by omega) (S.nx i j h h0 (hp _ hq.2))
   rw[a,b,c,d,k1,hc]
   exact⟨rfl,k2⟩
theorem jH (S:Sim f1 s1 f2 s2 R){p:UInt8→Bool}(hp: ∀c,p c=true→noQ c){i j:Nat}(h:R i j):bk f1 p s1 i=bk f2 p s2 j∧R (runE f1 p s1 i) (runE f2 p s2 j):=LU S hp _ i j (Nat.le_refl _) h
theorem uD (S:Sim f1 s1 f2 s2 R){i j:Nat}(h:R i j):(bI f1 s1 i).1=(bI f2 s2 j).1∧(bI f1 s1 i).2.2=(bI f2 s2 j).2.2∧((bI f1 s1 i).2.2=true→R (bI f1 s1 i).2.1 (bI f2 s2 j).2.1):=by
 have hc:=S.ch i j h
 unfold bI
 by_cases h46:atC f1 s1 i=46
 ·rw[if_pos h46,if_pos (by rw[←hc];exact h46)]
  have h1:=S.nx i j h (by rw[h46];decide) (by rw[h46];exact⟨by decide,by decide⟩)
  obtain⟨k1,k2⟩:=jH S (p:=bo) (fun c=>Lo) h1
  have hT:cF f1 s1 i=cF f2 s2 j:=by unfold cF;rw[k1]
  have hO:gM f1 s1 i=gM f2 s2 j:=by unfold gM;rw[hT,S.ch _ _ k2]
  refine⟨hT,hO,fun hok=> ?_⟩
  simp only at hok
  unfold gM at hok
  rw[Bool.and_eq_true,decide_eq_true_eq]at hok
  exact S.nx _ _ k2 (by rw[hok.1];decide) (by rw[hok.1];exact⟨by decide,by decide⟩)
 ·rw[if_neg h46,if_neg (by rw[←hc];exact h46)]
  exact⟨rfl,rfl,fun e=>by cases e⟩
theorem IK {c:UInt8}(h:c &&& 223=69∨c &&& 223=68):c≠0∧noQ c:=by
 refine⟨?_,?_,?_⟩
 all_goals
  rintro rfl
  exact absurd h (by decide)
theorem JZ (S:Sim f1 s1 f2 s2 R){i j:Nat}(h:R i j):(aX f1 s1 i).1=(aX f2 s2 j).1∧(aX f1 s1 i).2.1=(aX f2 s2 j).2.1∧(aX f1 s1 i).2.2.2=(aX f2 s2 j).2.2.2∧((aX f1 s1 i).2.2.2=true→R (aX f1 s1 i).2.2.1 (aX f2 s2 j).2.2.1):=by
 have hc:=S.ch i j h
 have hL:cK f1 s1 i=cK f2 s2 j:=by unfold cK;rw[hc]
 unfold aX
 by_cases hx:cK f1 s1 i=69∨cK f1 s1 i=68
 ·rw[if_pos hx,if_pos (by rw[←hL];exact hx)]
  obtain⟨h0,hq⟩:=IK hx
  have h1:=S.nx i j h h0 hq
  have hc1:=S.ch _ _ h1
  have hsi:cG f1 s1 i=cG f2 s2 j:=by unfold cG;rw[hc1]
  have hst:R (expStart f1 s1 i) (expStart f2 s2 j):=by
   unfold expStart
   by_cases hs:atC f1 s1 (atE f1 s1 i)=43∨atC f1 s1 (atE f1 s1 i)=45
   ·rw[if_pos hs,if_pos (by rw[←hc1];exact hs)]
    refine S.nx _ _ h1 ?_ ?_
    ·rcases hs with hs|hs<;>rw[hs]<;>decide
    ·rcases hs with hs|hs<;>rw[hs]<;>exact⟨by decide,by decide⟩
   ·rw[if_neg hs,if_neg (by rw[←hc1];exact hs)]
    exact h1
  obtain⟨k1,k2⟩:=jH S (p:=aw) (fun c=>q5) hst
  have hdi:aY f1 s1 i=aY f2 s2 j:=k1
  exact⟨hL,by rw[hsi,hdi],by rw[hdi],fun _=>k2⟩
 ·rw[if_neg hx,if_neg (by rw[←hL];exact hx)]
  exact⟨rfl,rfl,rfl,fun e=>by cases e⟩
theorem Fg (S:Sim f1 s1 f2 s2 R){i j:Nat}(h:R i j):Il R (dA f1 s1 i) (dA f2 s2 j):=by
 obtain⟨w1,w2⟩:=jH S (p:=aw) (fun c=>q5) h
 have hW:bS f1 s1 i=bS f2 s2 j:=w1
 obtain⟨d1,d2,d3⟩:=uD S w2
 have hD:cB f1 s1 i=cB f2 s2 j:=by unfold cB;rw[hW,d2,S.ch _ _ w2]
 have hPE:dE f1 s1 i=dE f2 s2 j∧R (numEnd f1 s1 i) (numEnd f2 s2 j):=by
  unfold dE numEnd
  rw[←hD]
  cases hd:cB f1 s1 i with
  |false=>exact⟨rfl,w2⟩
  |true=>
   have h46:atC f1 s1 (runE f1 aw s1 i)=46:=by
    unfold cB at hd
    rw[Bool.and_eq_true,decide_eq_true_eq]at hd
    exact hd.1
   have h1:=S.nx _ _ w2 (by rw[h46];decide) (by rw[h46];exact⟨by decide,by decide⟩)
   exact jH S (p:=aw) (fun c=>q5) h1
 obtain⟨hP,hE⟩:=hPE
 obtain⟨e1,e2,e3,e4⟩:=JZ S hE
 unfold dA
 simp only
 rw[hD,hW,hP,e1,e2,e3]
 split
 ·cases de (bS f2 s2 j)with
  |ok t=>exact⟨rfl,hE⟩
  |error e=>exact rfl
 ·unfold fj
  split
  ·exact rfl
  ·refine⟨rfl,?_⟩
   cases hx:(aX f2 s2 (numEnd f2 s2 j)).2.2.2 with
   |true=>exact e4 (by rw[e3];exact hx)
   |false=>exact hE
theorem JY: ∀a b:UInt8,bX.contains [a,b]=true→noQ b:=by
 intro a b h
 simp only[bX,List.contains_eq_mem,List.mem_cons,List.cons.injEq,and_true,List.not_mem_nil,or_false,reduceCtorEq,and_false,decide_eq_true_eq]at h
 rcases h with h|h|h<;>rw[h.2]<;>exact⟨by decide,by decide⟩
theorem Nn (S:Sim f1 s1 f2 s2 R){i j:Nat}(h:R i j)(h0:atC f1 s1 i≠0)(hq:noQ (atC f1 s1 i)):Il R (ex f1 s1 i) (ex f2 s2 j):=by
 have hc:=S.ch i j h
 have h1:=S.nx i j h h0 hq
 have hc1:=S.ch _ _ h1
 unfold ex
 simp only
 rw[←hc,←hc1]
 split
 ·rename_i w hw
  have h61:=wJ hw
  exact⟨rfl,S.nx _ _ h1 (by rw[h61];decide) (by rw[h61];exact⟨by decide,by decide⟩)⟩
 ·split
  ·rename_i hs
   exact⟨rfl,S.nx _ _ h1 hs.1 (JY _ _ hs.2)⟩
  ·split
   ·exact⟨rfl,h1⟩
   ·split
    ·exact⟨rfl,h1⟩
    ·exact rfl
theorem wH (S:Sim f1 s1 f2 s2 R){i j:Nat}{c:UInt8}(h:R i j)(g1:s1[i]? =some c)(g2:s2[j]? =some c)(h0:c≠0)(h32:c≠32)(hq:noQ c):Il R (iV (bg f1 s1 i c)) (iV (bg f2 s2 j c)):=by
 obtain⟨a1,a2⟩:=e8 (fx:=f1) g1 h32
 obtain⟨b1,b2⟩:=e8 (fx:=f2) g2 h32
 have h1:=S.nx i j h (by rw[a1];exact h0) (by rw[a1];exact hq)
 rw[a2,b2]at h1
 have hc1:=S.ch _ _ h1
 unfold bg
 rw[hc1]
 split
 ·obtain⟨k1,k2⟩:=jH S (p:=bD) (fun c=>LR) h
  rw[k1]
  split
  ·exact rfl
  ·exact⟨rfl,k2⟩
 ·split
  ·rw[oh,oh]
   exact Fg S h
  ·split
   ·obtain⟨d1,d2,d3⟩:=uD S h
    rw[d1,d2]
    split
    ·rename_i hok
     exact⟨rfl,d3 (by rw[d2];exact hok)⟩
    ·exact rfl
   ·rw[if_neg (by simp[hq.1,hq.2]),if_neg (by simp[hq.1,hq.2]),oh,oh]
    exact Nn S h (by rw[a1];exact h0) (by rw[a1];exact hq)
end
end Go.Abs
set_option linter.unusedVariables false
set_option linter.unusedSimpArgs false
set_option maxRecDepth 100000
namespace Go.Abs
open Go Go.Proofs
def vw:List UInt8→List UInt8
 |[]=>[]
 |c::r=>if c=32 then vw r else if c=39∨c=34 then [c]else c::vw r
def pl:List UInt8→Nat→List Nat
 |[],_=>[]
 |c::r,i=>if c=32 then pl r (i+1)else if c=39∨c=34 then [i]else i::pl r (i+1)
def bM (s:List UInt8)(n:Nat):Nat→Nat
 |0=>n
 |k+1=>atE true s (bM s n k)
section
variable {s:List UInt8}{n:Nat}
theorem kC:skipN true s n=n+aK (s.drop n):=rfl
theorem vK: ∀(l:List UInt8),vw l=vw (l.drop (aK l))
 |[]=>rfl
 |c::r=>by
  by_cases hc:c=32
  ·rw[vw,if_pos hc,aK,if_pos hc,List.drop_succ_cons];exact vK r
  ·rw[aK,if_neg hc];rfl
theorem li: ∀(l:List UInt8) (i:Nat),pl l i=pl (l.drop (aK l)) (i+aK l)
 |[],i=>rfl
 |c::r,i=>by
  by_cases hc:c=32
  ·rw[pl,if_pos hc,aK,if_pos hc,List.drop_succ_cons,li r (i+1)]
   congr 1;omega
  ·rw[aK,if_neg hc];rfl
theorem xZ:atC true s n=(((s.drop n).drop (aK (s.drop n)))[0]?).getD 0:=by
 unfold atC
 rw[kC,List.drop_drop,List.getElem?_drop,Nat.add_zero]
theorem ir (s:List UInt8)(n:Nat):((s.drop n).drop (aK (s.drop n))=[]∧atC true s n=0)∨
  ∃c,(s.drop n).drop (aK (s.drop n))=c::s.drop (atE true s n)∧atC true s n=c∧c≠32∧atE true s n=n+aK (s.drop n)+1∧n+aK (s.drop n)<s.length:=by
 cases h:(s.drop n).drop (aK (s.drop n))with
 |nil=>exact Or.inl ⟨rfl,by rw[xZ,h];rfl⟩
 |cons c r=>
  right
  have hlt:n+aK (s.drop n)<s.length:=by
   have:=congrArg List.length h
   rw[List.length_drop,List.length_drop]at this
   simp at this
   omega
  have hE:atE true s n=n+aK (s.drop n)+1:=by unfold atE;rw[kC,if_pos hlt]
  refine⟨c,?_,by rw[xZ,h];rfl,jO _ c r h,hE,hlt⟩
  rw[hE,←List.drop_drop,←List.drop_drop,h]
  rfl
theorem uL:(atC true s n=0→(∀b∈s,b≠0)→vw (s.drop n)=[])∧(atC true s n≠0→vw (s.drop n)=if atC true s n=39∨atC true s n=34 then [atC true s n]else atC true s n::vw (s.drop (atE true s n))):=by
 rcases ir s n with⟨h1,h2⟩|⟨c,h1,h2,h3,_⟩
 ·refine⟨fun _ _=> ?_,fun h=>absurd h2 h⟩
  rw[vK,h1];rfl
 ·refine⟨fun h0 hs=> ?_,fun _=> ?_⟩
  ·exfalso
   have:c∈s:=List.mem_of_mem_drop (List.mem_of_mem_drop (by rw[h1];simp))
   exact hs c this (by rw[←h2];exact h0)
  ·rw[vK,h1,vw,if_neg h3,h2]
theorem OA (hs: ∀b∈s,b≠0):((vw (s.drop n))[0]?).getD 0=atC true s n:=by
 by_cases h:atC true s n=0
 ·rw[(uL).1 h hs,h];rfl
 ·rw[(uL).2 h]
  split<;>rfl
def RF (s:List UInt8)(n:Nat)(i j:Nat):Prop:=i=bM s n j∧vw (s.drop i)=(vw (s.drop n)).drop j
theorem Pt (hs: ∀b∈s,b≠0):Sim true s false (vw (s.drop n)) (RF s n):=by
 constructor
 ·rintro i j ⟨h1,h2⟩
  rw[←OA hs,h2,cR,List.getElem?_drop,Nat.add_zero]
 ·rintro i j ⟨h1,h2⟩ h0 hq
  have hv:=(uL (s:=s) (n:=i)).2 h0
  rw[if_neg (by simp[hq.1,hq.2])]at hv
  have hj:j<(vw (s.drop n)).length:=by
   have:=congrArg List.length h2
   rw[hv,List.length_drop]at this
   simp only[List.length_cons]at this
   omega
  refine⟨?_,?_⟩
  ·rw[dk,if_pos hj]
   show atE true s i=atE true s (bM s n j)
   rw[←h1]
  ·rw[dk,if_pos hj,←List.drop_drop,←h2,hv]
   rfl
theorem OO:RF s n n 0:=⟨rfl,rfl⟩
theorem Oo (h0:atC true s n≠0):pl (s.drop n) n=(atE true s n-1)::(if atC true s n=39∨atC true s n=34 then []else pl (s.drop (atE true s n)) (atE true s n)):=by
 rcases ir s n with⟨h1,h2⟩|⟨c,h1,h2,h3,h4,_⟩
 ·exact absurd h2 h0
 ·rw[li,h1,pl,if_neg h3,h2,h4,Nat.add_sub_cancel]
  split<;>rfl
theorem HO: ∀(j n p:Nat),(pl (s.drop n) n)[j]? =some p→p+1=bM s n (j+1)
 |0,n,p,h=>by
  by_cases h0:atC true s n=0
  ·rcases ir s n with⟨h1,h2⟩|⟨c,h1,h2,h3,h4,h5⟩
   ·rw[li,h1]at h;cases h
   ·rw[li,h1,pl,if_neg h3]at h
    have hp:n+aK (s.drop n)=p:=by
     split at h<;>(injection h)
    show p+1=atE true s n
    omega
  ·rw[Oo h0]at h
   injection h with h
   show p+1=atE true s n
   rcases ir s n with⟨h1,h2⟩|⟨c,h1,h2,h3,h4,h5⟩
   ·exact absurd h2 h0
   ·omega
 |j+1,n,p,h=>by
  have hgo: ∀k,bM s n (k+1)=bM s (atE true s n) k:=by
   intro k
   induction k with
   |zero=>rfl
   |succ k ih=>show atE true s (bM s n (k+1))=atE true s (bM s (atE true s n) k);rw[ih]
  rw[hgo]
  rcases ir s n with⟨h1,h2⟩|⟨c,h1,h2,h3,h4,h5⟩
  ·rw[li,h1]at h;cases h
  ·rw[li,h1,pl,if_neg h3]at h
   split at h
   ·cases h
   ·rw[List.getElem?_cons_succ]at h
    rw[←h4]at h
    exact HO j (atE true s n) p h
theorem qM: ∀(l:List UInt8) (i:Nat),(pl l i).length=(vw l).length
 |[],i=>rfl
 |c::r,i=>by
  unfold pl vw
  split
  ·exact qM r (i+1)
  ·split
   ·rfl
   ·simp only[List.length_cons,qM r (i+1)]
theorem Ii: ∀(l:List UInt8),(vw l).length≤l.length
 |[]=>Nat.le_refl _
 |c::r=>by
  have:=Ii r
  unfold vw
  split
  ·simp;omega
  ·split
   ·simp
   ·simp only[List.length_cons];omega
def bi (K:List Nat):List UInt8→Nat→List UInt8
 |[],_=>[]
 |c::r,i=>if c≠32∨i∈K then c::bi K r (i+1)else bi K r (i+1)
theorem eK (K:List Nat): ∀(a b:List UInt8) (i:Nat),bi K (a++b) i=bi K a i++bi K b (i+a.length)
 |[],b,i=>rfl
 |c::r,b,i=>by
  have e:i+1+r.length=i+(c::r).length:=by simp;omega
  rw[List.cons_append,bi,bi,eK K r b (i+1),e]
  split<;>rfl
theorem ee {K K':List Nat}: ∀(a:List UInt8) (i:Nat),(∀j,i≤j→j<i+a.length→(j∈K↔j∈K'))→bi K a i=bi K' a i
 |[],i,h=>rfl
 |c::r,i,h=>by
  have h1:=h i (Nat.le_refl _) (by simp)
  have h2:=ee r (i+1) (fun j k1 k2=>h j (by omega) (by simp;omega))
  unfold bi
  rw[h2]
  by_cases hk:i∈K
  ·rw[if_pos (Or.inr hk),if_pos (Or.inr (h1.1 hk))]
  ·have hk':i ∉ K':=fun e=>hk (h1.2 e)
   simp only[hk,hk',or_false]
theorem iJ {K:List Nat}: ∀(a:List UInt8) (i:Nat),(∀j,i≤j→j<i+a.length→j∈K)→bi K a i=a
 |[],i,h=>rfl
 |c::r,i,h=>by
  unfold bi
  rw[if_pos (Or.inr (h i (Nat.le_refl _) (by simp))),iJ r (i+1) (fun j k1 k2=>h j (by omega) (by simp;omega))]
theorem qb {K:List Nat}: ∀(a:List UInt8) (i:Nat),(∀c∈a,c≠32)→bi K a i=a
 |[],i,h=>rfl
 |c::r,i,h=>by
  unfold bi
  rw[if_pos (Or.inl (h c (by simp))),qb r (i+1) (fun c hc=>h c (List.mem_cons_of_mem _ hc))]
theorem fX {K:List Nat}: ∀(a:List UInt8) (i:Nat),(∀c∈a,c=32)→(∀j,i≤j→j<i+a.length→j ∉ K)→bi K a i=[]
 |[],i,_,h=>rfl
 |c::r,i,ha,h=>by
  unfold bi
  rw[if_neg (by simp[ha c (by simp),h i (Nat.le_refl _) (by simp)]),fX r (i+1) (fun c hc=>ha c (List.mem_cons_of_mem _ hc)) (fun j k1 k2=>h j (by omega) (by simp;omega))]
def ink (l:List UInt8):List UInt8:=bi [] l 0
theorem gp: ∀(a:List UInt8) (i j:Nat),bi [] a i=bi [] a j
 |[],i,j=>rfl
 |c::r,i,j=>by
  unfold bi
  rw[gp r (i+1) (j+1)]
  simp
theorem fF {c:UInt8}{r:List UInt8}:ink (c::r)=if c=32 then ink r else c::ink r:=by
 unfold ink
 rw[bi,gp r (0+1) 0]
 by_cases h:c=32
 ·rw[if_neg (by simp[h]),if_pos h]
 ·rw[if_pos (Or.inl h),if_neg h]
theorem nc (a b:List UInt8):ink (a++b)=ink a++ink b:=by
 unfold ink
 rw[eK,gp b (0+a.length) 0]
theorem tX: ∀(a:List UInt8),∀c∈ink a,c≠32
 |[],c,h=>by cases h
 |d::r,c,h=>by
  rw[fF]at h
  split at h
  ·exact tX r c h
  ·rename_i hd
   rcases List.mem_cons.1 h with rfl|h
   ·exact hd
   ·exact tX r c h
theorem ot (K:List Nat): ∀(a:List UInt8) (i:Nat),ink (bi K a i)=ink a
 |[],i=>rfl
 |c::r,i=>by
  unfold bi
  split
  ·rw[fF,fF,ot K r (i+1)]
  ·rename_i h
   have hc:c=32:=Classical.byContradiction fun e=>h (Or.inl e)
   rw[ot K r (i+1),fF,if_pos hc]
theorem gJ: ∀(l:List UInt8),∀c∈l.take (aK l),c=32
 |[],c,h=>by cases h
 |d::r,c,h=>by
  by_cases hd:d=32
  ·rw[aK,if_pos hd,List.take_succ_cons]at h
   rcases List.mem_cons.1 h with rfl|h
   ·exact hd
   ·exact gJ r c h
  ·rw[aK,if_neg hd]at h;cases h
theorem D1 (l:List UInt8):ink (l.take (aK l))=[]:=fX _ _ (gJ l) (fun j _ _ h=>by cases h)
theorem yO (h0:atC true s n≠0):ink ((s.drop n).take (atE true s n-n))=[atC true s n]:=by
 rcases ir s n with⟨h1,h2⟩|⟨c,h1,h2,h3,h4,h5⟩
 ·exact absurd h2 h0
 ·have e:atE true s n-n=aK (s.drop n)+1:=by omega
  have:(s.drop n).take (aK (s.drop n)+1)=(s.drop n).take (aK (s.drop n))++[c]:=by
   rw[List.take_add,h1]
   rfl
  rw[e,this,nc,D1,h2,fF,if_neg h3]
  rfl
theorem vF: ∀(k:Nat),n≤bM s n k
 |0=>Nat.le_refl _
 |k+1=>Nat.le_trans (vF k) fP
theorem CR: ∀(k:Nat),(∀j,j<k→atC true s (bM s n j)≠0)→(ink ((s.drop n).take (bM s n k-n))).length=k
 |0,_=>by rw[show bM s n 0=n from rfl,Nat.sub_self,List.take_zero];rfl
 |k+1,h=>by
  have ih:=CR k (fun j hj=>h j (by omega))
  have h0:=h k (by omega)
  have hle:=vF (s:=s) (n:=n) k
  have hge:bM s n k≤bM s n (k+1):=fP
  have e:bM s n (k+1) -n=(bM s n k-n)+(bM s n (k+1) -bM s n k):=by omega
  have h2:(s.drop n).drop (bM s n k-n)=s.drop (bM s n k):=by rw[List.drop_drop];congr 1;omega
  rw[e,List.take_add,nc,List.length_append,ih,h2,show bM s n (k+1)=atE true s (bM s n k)from rfl,yO h0]
  rfl
theorem Dq: ∀(k:Nat),(∀j,j<k→atC true s (bM s n j)≠0∧RF s n (bM s n j) j)→ink ((s.drop n).take (bM s n k-n))=(vw (s.drop n)).take k
 |0,_=>by rw[show bM s n 0=n from rfl,Nat.sub_self,List.take_zero];rfl
 |k+1,h=>by
  have ih:=Dq k (fun j hj=>h j (by omega))
  obtain⟨h0,_,hR⟩:=h k (by omega)
  have hle:=vF (s:=s) (n:=n) k
  have hge:bM s n k≤bM s n (k+1):=fP
  have e:bM s n (k+1) -n=(bM s n k-n)+(bM s n (k+1) -bM s n k):=by omega
  have h2:(s.drop n).drop (bM s n k-n)=s.drop (bM s n k):=by rw[List.drop_drop];congr 1;omega
  have h3:(vw (s.drop n)).drop k=atC true s (bM s n k)::((vw (s.drop n)).drop (k+1)):=by
   have hv:=(uL (s:=s) (n:=bM s n k)).2 h0
   rw[hR]at hv
   rw[←List.drop_drop,hv]
   split<;>rfl
  rw[e,List.take_add,nc,ih,h2,show bM s n (k+1)=atE true s (bM s n k)from rfl,yO h0,List.take_add,h3]
  rfl
end
end Go.Abs
set_option linter.unusedVariables false
set_option linter.unusedSimpArgs false
set_option maxRecDepth 100000
namespace Go.Abs
open Go Go.Proofs
section
variable {μ:Mu}{s:List UInt8}
theorem e32 (c:UInt8):decide ((c.toNat:Int)=32)=decide (c=32):=bV (k:=32) (by omega)
theorem IF (c:UInt8):decide ((c.toNat:Int)=39)=decide (c=39):=bV (k:=39) (by omega)
theorem IE (c:UInt8):decide ((c.toNat:Int)=34)=decide (c=34):=bV (k:=34) (by omega)
theorem MU (hs:s.length≤200000): ∀(k n:Nat) (x:List UInt8) (y:List Nat),n+k=s.length→x.length≤n→y.length≤n→
  w8 (ev E) s x (aT y) (n:Int) μ=some (lr (x++vw (s.drop n)) (aT (y++pl (s.drop n) n)) μ):=by
 intro k
 induction k with
 |zero=>
  intro n x y hn hx hy
  refine aV ?_
  rw[Da,cS (by omega),cond_false,List.drop_eq_nil_of_le (by omega)]
  simp[vw,pl]
 |succ k ih=>
  intro n x y hn hx hy
  refine aV ?_
  have hlt:n<s.length:=by omega
  have hd:s.drop n=s[n]::s.drop (n+1):=List.drop_eq_getElem_cons hlt
  have hi:[CV.int .i64 (n:Int)]=aT [n]:=rfl
  have hia:aT y++aT [n]=aT (y++[n]):=by simp[aT]
  rw[Da,cN hlt,cond_true,bJ hlt,aa,e32,bQ (by omega),u6 hlt,aa,bh (by simp;omega),aA,hi,tE (by simp;omega),aA,aa,aa,IF,IE,hia]
  rw[ih (n+1) x y (by omega) (by omega) (by omega),ih (n+1) (x++[s[n]]) (y++[n]) (by omega) (by simp;omega) (by simp;omega),hd,vw,pl]
  by_cases h32:s[n]=32
  ·rw[decide_eq_true h32,if_pos h32,if_pos h32];rfl
  ·rw[decide_eq_false h32,if_neg h32,if_neg h32,cond_false]
   by_cases h39:s[n]=39
   ·rw[decide_eq_true h39,if_pos (Or.inl h39),if_pos (Or.inl h39)];rfl
   ·rw[decide_eq_false h39,cond_false]
    by_cases h34:s[n]=34
    ·rw[decide_eq_true h34,if_pos (Or.inr h34),if_pos (Or.inr h34)];rfl
    ·rw[decide_eq_false h34,cond_false,if_neg (by simp[h39,h34]),if_neg (by simp[h39,h34])]
     simp
theorem NO (hs:s.length≤200000){n:Nat}(hn:n≤s.length):(ev E).call 82 [LV.str s,LV.int .i64 (n:Int)] μ=some (.ret (.ltup [LV.str (vw (s.drop n)),LV.cv (CV.sl (aT (pl (s.drop n) n)))]) μ):=by
 refine aN ?_
 have:=MU (μ:=μ) hs (s.length-n) n [] [] (by omega) (by simp) (by simp)
 rw[show aT []=[]from rfl,List.nil_append,List.nil_append]at this
 rw[Pe,this,aa,EP]
theorem MS (hs:s.length≤200000): ∀(k n:Nat) (x:List UInt8),n+k=s.length→x.length≤n→
  qS (ev E) s x (n:Int) μ=some (nU s (x++bk true aw s n) (skipN true s (runE true aw s n):Nat) μ):=by
 intro k
 induction k with
 |zero=>
  intro n x hn hx
  refine aV ?_
  have hd:s.drop n=[]:=List.drop_eq_nil_of_le (by omega)
  have h1:bk true aw s n=[]:=by unfold bk;rw[hd];rfl
  have h2:runE true aw s n=n:=by unfold runE;rw[hd];rfl
  have h3:skipN true s n=n:=by rw[kC,hd];rfl
  rw[C8,cS (by omega),cond_false,h1,h2,h3,List.append_nil]
 |succ k ih=>
  intro n x hn hx
  refine aV ?_
  have hlt:n<s.length:=by omega
  have hd:s.drop n=s[n]::s.drop (n+1):=List.drop_eq_getElem_cons hlt
  have hg:s[n]? =some s[n]:=List.getElem?_eq_getElem hlt
  rw[C8,cN hlt,cond_true,bJ hlt,aa,ow]
  simp only[ad,ao,aa,ak,am,ah,ae,aj,aA,cond_true,cond_false,Bool.not_true,Bool.not_false,au,ar,aq]
  rw[e32,bQ (by omega),u6 hlt]
  simp only[ad,ao,aa,ak,am,ah,ae,aj,aA,cond_true,cond_false,Bool.not_true,Bool.not_false,au,ar,aq]
  rw[bh (by simp;omega),aA,ih (n+1) x (by omega) (by omega),ih (n+1) (x++[s[n]]) (by omega) (by simp;omega)]
  by_cases h32:s[n]=32
  ·have hnd:aw s[n]=false:=by rw[h32];rfl
   have hrun:cD true aw (s.drop n) 0=cD true aw (s.drop (n+1)) 1:=by rw[hd,cD,h32];rfl
   have hsk: ∀(l:List UInt8) (j:Nat),(cD true aw l j).1=(cD true aw l 0).1∧((cD true aw l 0).1=[]→(cD true aw l j).2=0)∧((cD true aw l 0).1≠[]→(cD true aw l j).2=(cD true aw l 0).2+j):=by
    intro l
    induction l with
    |nil=>intro j;exact⟨rfl,fun _=>rfl,fun h=>absurd rfl h⟩
    |cons c r ih=>
     intro j
     unfold cD
     by_cases hc:c=32
     ·subst hc
      simp only[Bool.true_and,BEq.rfl,if_true]
      obtain⟨a1,a2,a3⟩:=ih (j+1)
      obtain⟨b1,b2,b3⟩:=ih (0+1)
      rw[a1,b1]
      refine⟨rfl,fun h=>a2 h,fun h=> ?_⟩
      rw[a3 h,b3 h]
      omega
     ·have:(c == 32)=false:=by simp[hc]
      simp only[this,Bool.and_false,Bool.false_eq_true,if_false]
      split
      ·refine⟨rfl,fun h=>by simp at h,fun _=> ?_⟩
       simp only
       omega
      ·exact⟨rfl,fun _=>rfl,fun h=>absurd rfl h⟩
   obtain⟨a1,a2,a3⟩:=hsk (s.drop (n+1)) 1
   have h1:bk true aw s n=bk true aw s (n+1):=by unfold bk;rw[hrun,a1]
   have h2:skipN true s (runE true aw s n)=skipN true s (runE true aw s (n+1)):=by
    unfold runE
    rw[hrun]
    by_cases hz:(cD true aw (s.drop (n+1)) 0).1=[]
    ·have hz0:(cD true aw (s.drop (n+1)) 0).2=0:=by
      have:=(hsk (s.drop (n+1)) 0).2.1 hz
      exact this
     rw[a2 hz,hz0,Nat.add_zero,Nat.add_zero,kC,kC,hd,aK,if_pos h32]
     omega
    ·rw[a3 hz]
     congr 1
     omega
   rw[hnd,cond_false,decide_eq_true h32,h1,h2]
   rfl
  ·rw[decide_eq_false h32,Bool.not_false,cond_true]
   obtain⟨c1,c2⟩:=e8 (fx:=true) hg h32
   cases hdg:aw s[n]with
   |true=>
    have h0:s[n]≠0:=by intro e;rw[e]at hdg;exact absurd hdg (by decide)
    obtain⟨r1,r2⟩:=gB (fx:=true) (s:=s) (p:=aw) (n:=n) (by rw[c1,hdg];simp[h0])
    rw[c1,c2]at r1
    rw[c2]at r2
    rw[cond_true,r1,r2]
    simp
   |false=>
    obtain⟨r1,r2⟩:=fM (fx:=true) (s:=s) (p:=aw) (n:=n) (by rw[c1,hdg];simp)
    rw[cond_false,r1,r2,Dl hg h32,List.append_nil]
    rfl
theorem Lk {n:Nat}(h1:(bk true aw s n).length≤2)(h0:bk true aw s n≠[]):bR true s n=(valD 0 (bk true aw s n):Nat):=by
 unfold bR dH
 rw[mE (fun b hb=>jG b hb) h0 (by omega)]
theorem KB (hs:s.length≤200000){n:Nat}(hn:n≤s.length)(h0:bk true aw s n≠[]): ∃x y:Int,(ev E).call 80 [LV.str s,LV.int .i64 (n:Int)] μ=some (.ret (.ltup [LV.int .i64 x,LV.int .i64 y,LV.bool (decide (co true s n))]) μ)∧(co true s n→x=bR true s n∧y=(holE true s n:Nat)):=by
 have hl:=MS (μ:=μ) hs (s.length-n) n [] (by omega) (by simp)
 rw[List.nil_append]at hl
 have hD1:1≤(bk true aw s n).length:=by
  cases hq:bk true aw s n with
  |nil=>exact absurd hq h0
  |cons c r=>simp
 have hle:=fk (fx:=true) (s:=s) (p:=aw) hn
 have hsk:=ti (fx:=true) hle
 have hfalse: ∀(h: ¬co true s n),(ev E).call 80 [LV.str s,LV.int .i64 (n:Int)] μ=some (.ret (.ltup [LV.int .i64 0,LV.int .i64 0,LV.bool false]) μ)→ ∃x y:Int,(ev E).call 80 [LV.str s,LV.int .i64 (n:Int)] μ=some (.ret (.ltup [LV.int .i64 x,LV.int .i64 y,LV.bool (decide (co true s n))]) μ)∧(co true s n→x=bR true s n∧y=(holE true s n:Nat)):=by
  intro h h2
  exact⟨0,0,by rw[decide_eq_false h];exact h2,fun h3=>absurd h3 h⟩
 by_cases h2:2<(bk true aw s n).length
 ·refine hfalse (fun h=>by have:=h.1;omega) (aN ?_)
  rw[I2,hl,aa,oF,decide_eq_false (by omega: ¬((bk true aw s n).length:Int)<1),decide_eq_true (by omega:(2:Int)<((bk true aw s n).length:Int))]
  rfl
 ·by_cases hend:s.length≤skipN true s (runE true aw s n)
  ·refine hfalse (fun h=> ?_) (aN ?_)
   ·have hc:dZ true s n=0:=by
     unfold dZ atC
     rw[List.getElem?_eq_none hend];rfl
    rcases h.2.2.2 with h|h<;>rw[hc]at h<;>exact absurd h (by decide)
   ·rw[I2,hl,aa,oF,decide_eq_false (by omega: ¬((bk true aw s n).length:Int)<1),decide_eq_false (by omega: ¬(2:Int)<((bk true aw s n).length:Int)),MI hend]
    rfl
  ·have hlt:skipN true s (runE true aw s n)<s.length:=by omega
   have hc:dZ true s n=s[skipN true s (runE true aw s n)]:=by
    unfold dZ atC
    rw[List.getElem?_eq_getElem hlt];rfl
   have hE:holE true s n=skipN true s (runE true aw s n)+1:=by
    unfold holE atE
    rw[if_pos hlt]
   have e72:decide ((s[skipN true s (runE true aw s n)].toNat:Int)=72)=decide (dZ true s n=72):=by rw[hc];exact bV (k:=72) (by omega)
   have e104:decide ((s[skipN true s (runE true aw s n)].toNat:Int)=104)=decide (dZ true s n=104):=by rw[hc];exact bV (k:=104) (by omega)
   have hpre:aG E (ev E) 80 [LV.str s,LV.int .i64 (n:Int)] μ=cond (!decide (dZ true s n=72)) (cond (!decide (dZ true s n=104)) (some (.ret (.ltup [LV.int .i64 0,LV.int .i64 0,LV.bool false]) μ)) (opt (qQ (ev E) (bk true aw s n) (skipN true s (runE true aw s n):Nat) μ) (kB (ev E) 80 H80 []))) (opt (qQ (ev E) (bk true aw s n) (skipN true s (runE true aw s n):Nat) μ) (kB (ev E) 80 H80 [])):=by
    rw[I2,hl,aa,oF,decide_eq_false (by omega: ¬((bk true aw s n).length:Int)<1),decide_eq_false (by omega: ¬(2:Int)<((bk true aw s n).length:Int)),MH hlt,cond_false,cond_false,cond_false,bJ hlt,aa,aa,e72,e104]
   have hG:(opt (qQ (ev E) (bk true aw s n) (skipN true s (runE true aw s n):Nat) μ) (kB (ev E) 80 H80 []))=some (.ret (.ltup [LV.int .i64 (bR true s n),LV.int .i64 (holE true s n:Nat),LV.bool (decide (1≤bR true s n)&&decide (bR true s n≤60))]) μ):=by
    have:qQ (ev E) (bk true aw s n) (skipN true s (runE true aw s n):Nat) μ=some (sx (bR true s n) (holE true s n:Nat) (decide (1≤bR true s n)&&decide (bR true s n≤60)) μ):=by
     refine aU ?_
     rw[LJ,G9 (by omega) (fun b hb=>jG b hb)]
     simp only[ad,ao,aa,ak,am,ah,ae,aj,aA,cond_true,cond_false,Bool.not_true,Bool.not_false,au,ar,aq]
     rw[Kp]
     simp only[ad,ao,aa,ak,am,ah,ae,aj,aA,cond_true,cond_false,Bool.not_true,Bool.not_false,au,ar,aq]
     rw[bQ (by omega),Lk (by omega) h0,hE]
    rw[this,aa,Ey]
   by_cases hH:dZ true s n=72∨dZ true s n=104
   ·refine⟨bR true s n,(holE true s n:Nat),aN ?_,fun _=>⟨rfl,rfl⟩⟩
    have hd:decide (co true s n)=(decide (1≤bR true s n)&&decide (bR true s n≤60)):=by
     by_cases ha:1≤bR true s n
     ·by_cases hb:bR true s n≤60
      ·rw[decide_eq_true ha,decide_eq_true hb,decide_eq_true (show co true s n from⟨by omega,ha,hb,hH⟩)];rfl
      ·rw[decide_eq_false hb,decide_eq_false (fun h:co true s n=>hb h.2.2.1)];simp
     ·rw[decide_eq_false ha,decide_eq_false (fun h:co true s n=>ha h.2.1)];rfl
    rw[hpre,hG,hd]
    rcases hH with h|h
    ·rw[decide_eq_true h];rfl
    ·rw[decide_eq_true h]
     cases decide (dZ true s n=72)<;>rfl
   ·refine hfalse (fun h=>hH h.2.2.2) (aN ?_)
    rw[hpre,decide_eq_false (fun e=>hH (Or.inl e)),decide_eq_false (fun e=>hH (Or.inr e))]
    rfl
theorem Lq {l:List Nat}{x:Nat}(hl:l.length≤1000000): ∀(k j:Nat),j+k=l.length→(x∈l.drop j→ ∃i:Nat,o8 (ev E) (aT l) (x:Int) (l.length:Int) (j:Int) μ=some (ma (i:Int) μ))∧(x ∉ l.drop j→o8 (ev E) (aT l) (x:Int) (l.length:Int) (j:Int) μ=some (pK μ)):=by
 intro k
 induction k with
 |zero=>
  intro j hj
  have hd:l.drop j=[]:=List.drop_eq_nil_of_le (by omega)
  rw[hd]
  refine⟨fun h=>absurd h (by simp),fun _=>aV ?_⟩
  rw[zf,cS (by omega),cond_false]
 |succ k ih=>
  intro j hj
  have hlt:j<l.length:=by omega
  have hd:l.drop j=l[j]::l.drop (j+1):=List.drop_eq_getElem_cons hlt
  have hg:cE (aT l) (j:Int)=some (CV.int .i64 (l[j]:Int)):=by rw[c6];simp[aT,hlt]
  have hi:aH .i64 (LV.cv (CV.int .i64 (l[j]:Int)))=some (l[j]:Int):=am
  have hstep:(u7 (aT l) (x:Int) (l.length:Int) (j:Int)).rK (ev E) μ=cond (decide (x=l[j])) (some (ma (j:Int) μ)) (o8 (ev E) (aT l) (x:Int) (l.length:Int) ((j+1:Nat):Int) μ):=by
   rw[zf,cN hlt,cond_true,hg,aa,hi,aa,bQ (by omega)]
   have:decide ((x:Int)=(l[j]:Int))=decide (x=l[j]):=by
    by_cases h:x=l[j]
    ·simp[h]
    ·rw[decide_eq_false h,decide_eq_false (by omega)]
   rw[this]
  obtain⟨i1,i2⟩:=ih (j+1) (by omega)
  rw[hd]
  by_cases hx:x=l[j]
  ·refine⟨fun _=>⟨j,aV ?_⟩,fun h=>absurd (List.mem_cons.2 (Or.inl hx)) h⟩
   rw[hstep,decide_eq_true hx,cond_true]
  ·refine⟨fun h=> ?_,fun h=>aV ?_⟩
   ·obtain⟨i,hi⟩:=i1 ((List.mem_cons.1 h).resolve_left hx)
    refine⟨i,aV ?_⟩
    rw[hstep,decide_eq_false hx,cond_false,hi]
   ·rw[hstep,decide_eq_false hx,cond_false,i2 (fun e=>h (List.mem_cons_of_mem _ e))]
theorem NN {l:List Nat}{x:Nat}(hl:l.length≤1000000):(ev E).call 79 [LV.cv (CV.sl (aT l)),LV.int .i64 (x:Int)] μ=some (.ret (LV.bool (decide (x∈l))) μ):=by
 have hle:(aT l).length=l.length:=by simp[aT]
 obtain⟨h1,h2⟩:=Lq (μ:=μ) (x:=x) hl l.length 0 (by omega)
 rw[List.drop_zero,show ((0:Nat):Int)=0 from rfl]at h1 h2
 refine aN ?_
 by_cases hx:x∈l
 ·obtain⟨i,hi⟩:=h1 hx
  have:(ev E).call 119 [LV.cv (CV.sl (aT l)),LV.int .i64 (x:Int)] μ=some (.ret (LV.int .i64 (i:Int)) μ):=aN (by rw[KI,hle,hi,aa,Bo])
  rw[M4,this,ad,am,aa,decide_eq_true hx,decide_eq_true (by omega:(0:Int)≤(i:Int))]
 ·have:(ev E).call 119 [LV.cv (CV.sl (aT l)),LV.int .i64 (x:Int)] μ=some (.ret (LV.int .i64 (-1)) μ):=aN (by rw[KI,hle,h2 hx,aa,Bp])
  rw[M4,this,ad,am,aa,decide_eq_false hx]
  rfl
theorem MM {K:List Nat}{o:List CV}{fx:Bool}(hs:s.length≤200000)(hK:K.length≤200000): ∀(k n:Nat) (x:List UInt8),n+k=s.length→x.length≤n→
  tw (ev E) s (CV.view [CV.str s,CV.bool fx,CV.sl o,CV.sl (aT K)]) (bd x) (s.length:Int) (n:Int) μ=some (sD (bd (x++bi K (s.drop n) n)) μ):=by
 intro k
 induction k with
 |zero=>
  intro n x hn hx
  refine aV ?_
  rw[C2,cS (by omega),cond_false,List.drop_eq_nil_of_le (by omega),bi,List.append_nil]
 |succ k ih=>
  intro n x hn hx
  refine aV ?_
  have hlt:n<s.length:=by omega
  have hd:s.drop n=s[n]::s.drop (n+1):=List.drop_eq_getElem_cons hlt
  have hb:[CV.int .u8 (s[n].toNat:Int)]=bd [s[n]]:=rfl
  rw [C2, cN hlt, cond_true, bJ hlt, aa, e32, aa, hb, mC (by simp; omega), aA, ← mI, bQ (by omega), ih (n + 1) _ (by omega) (by simp; omega),
   t7,aa,Bool.not_false,aA,wi,aa]
  simp only[ad,ao,aa,ak,am,ah,ae,aj,aA,cond_true,cond_false,Bool.not_true,Bool.not_false,au,ar,aq,yN,wg]
  rw[NN (by omega)]
  simp only[ad,ao,aa,ak,am,ah,ae,aj,aA,cond_true,cond_false,Bool.not_true,Bool.not_false,au,ar,aq]
  rw[hd,bi]
  by_cases h32:s[n]=32
  ·rw[decide_eq_true h32,Bool.not_true,cond_false]
   by_cases hK2:n∈K
   ·have e1:(n:Int)+1=((n+1:Nat):Int):=by omega
    rw[decide_eq_true hK2,cond_true,if_pos (Or.inr hK2)]
    simp only[Int.natCast_add,Int.cast_ofNat_Int]
    rw[hb,mC (by simp;omega),aA,←mI,e1,ih (n+1) _ (by omega) (by simp;omega)]
    simp
   ·rw[decide_eq_false hK2,cond_false,if_neg (by simp[h32,hK2]),ih (n+1) x (by omega) (by omega)]
  ·rw[decide_eq_false h32,Bool.not_false,cond_true,if_pos (Or.inl h32)];simp
theorem NE (hs:s.length≤200000)(hK:(a6 true s).kept.length≤200000):(ev E).call 31 [LV.str s] μ=some (.ret (.ltup [LV.str (if(a6 true s).e=0 then bi (a6 true s).kept s 0 else []),LV.int .i64 (a6 true s).e]) μ):=by
 refine aN ?_
 rw[OV,KA hs]
 simp only[ad,ao,aa,ak,am,ah,ae,aj,aA,cond_true,cond_false,Bool.not_true,Bool.not_false,au,ar,aq,jv]
 by_cases he:(a6 true s).e=0
 ·obtain⟨_,_,hC⟩:=vH he
  rw[decide_eq_true he,Bool.not_true,cond_false,if_pos he,hC]
  have hl:=MM (μ:=μ) (s:=s) (o:=aB (a6 true s).toks) (fx:=true) hs hK s.length 0 [] (by omega) (by simp)
  rw[List.drop_zero,List.nil_append,show bd []=[]from rfl,show ((0:Nat):Int)=0 from rfl]at hl
  have hG:J7 (ev E) s (CV.view [CV.str s,CV.bool true,CV.sl (aB (a6 true s).toks),CV.sl (aT (a6 true s).kept)]) μ=some (sf (bi (a6 true s).kept s 0) 0 μ):=by
   refine aU ?_
   rw[LC,hl,aa,EE,cu,aa]
  rw[hG,aa,El,he]
 ·rw[decide_eq_false he,if_neg he]
  rfl
end
end Go.Abs
set_option linter.unusedVariables false
set_option linter.unusedSimpArgs false
set_option maxRecDepth 100000
namespace Go.Abs
open Go Go.Proofs
section
variable {s:List UInt8}{n:Nat}
def RG (s:List UInt8)(n i j:Nat):Prop:=RF s n i j∧ ∀k,k<j→atC true s (bM s n k)≠0∧RF s n (bM s n k) k
theorem Pu (hs: ∀b∈s,b≠0):Sim true s false (vw (s.drop n)) (RG s n):=by
 have S:=Pt (n:=n) hs
 constructor
 ·rintro i j ⟨h,_⟩
  exact S.ch i j h
 ·rintro i j ⟨h,ha⟩ h0 hq
  have h1:=S.nx i j h h0 hq
  refine⟨h1,fun k hk=> ?_⟩
  have hj:atE false (vw (s.drop n)) j=j+1:=by
   have hc:=S.ch i j h
   have:j<(vw (s.drop n)).length:=by
    refine Classical.byContradiction fun e=>h0 ?_
    rw[hc,cR,List.getElem?_eq_none (by omega)];rfl
   rw[dk,if_pos this]
  rw[hj]at hk
  rcases Nat.lt_or_ge k j with h2|h2
  ·exact ha k h2
  ·have:k=j:=by omega
   subst this
   obtain⟨h3,h4⟩:=h
   rw[←h3]
   exact⟨h0,h3,h4⟩
theorem OP:RG s n n 0:=⟨OO,fun k hk=>by omega⟩
theorem jX {fx:Bool}{c:UInt8}{q:Tok×Nat×List Nat}(hq:noQ c)(h:bg fx s n c= .ok q):q.2.2=[]:=by
 have no: ∀x:Except Int (Tok×Nat),noK x= .ok q→q.2.2=[]:=by
  intro x hx
  cases x with
  |error e=>cases hx
  |ok y=>injection hx with hx;rw[←hx]
 unfold bg at h
 split at h
 ·split at h
  ·cases h
  ·injection h with h;rw[←h]
 ·split at h
  ·exact no _ h
  ·split at h
   ·split at h
    ·injection h with h;rw[←h]
    ·cases h
   ·rw[if_neg (by simp[hq.1,hq.2])]at h
    exact no _ h
def br (s:List UInt8)(m:Nat)(q:Tok×Nat×List Nat):List UInt8:=bi q.2.2 ((s.drop m).take (q.2.1-m)) m
theorem I1 (hs: ∀b∈s,b≠0){c:UInt8}(hg:s[n]? =some c)(h32:c≠32)(hq:noQ c):
  ∃ r, vw (s.drop n) = c :: r ∧ ((∃ x, bg true s n c = .error x ∧ iV (bg false (c :: r) 0 c) = .error x) ∨
   ∃t e j,bg true s n c= .ok (t,e,[])∧iV (bg false (c::r) 0 c)= .ok (t,j)∧1≤j∧j≤(c::r).length∧e=bM s n j∧(c::r).take j=br s n (t,e,[])∧n<e∧e≤s.length):=by
 have hn:=cM hg
 have hc0:c≠0:=hs c (List.mem_of_getElem? hg)
 obtain⟨c1,c2⟩:=e8 (fx:=true) hg h32
 have hv:vw (s.drop n)=c::vw (s.drop (atE true s n)):=by
  have:=(uL (s:=s) (n:=n)).2 (by rw[c1];exact hc0)
  rw[c1,if_neg (by simp[hq.1,hq.2])]at this
  exact this
 refine⟨_,hv,?_⟩
 have hR:=wH (Pu (n:=n) hs) (i:=n) (j:=0) (c:=c) OP hg (by rw[hv];rfl) hc0 h32 hq
 rw[hv]at hR
 obtain⟨r,hr⟩: ∃r,r=vw (s.drop (atE true s n)):=⟨_,rfl⟩
 rw[←hr]at hR hv ⊢
 have hfv:=dL (fx:=false) (s:=c::r) (out:=[]) (n:=0) (c:=c) rfl h32
 rw[uG]at hfv
 have hfs:uU s n (bg true s n c):=by
  have h1:=dL (fx:=false) (s:=s) (out:=[]) hg h32
  have key: ∀{out:List Tok},bx true s out n=bg true s n c→uU s n (bg true s n c):=fun h=>by rw[←h];exact dL hg h32
  refine key (out:=[⟨1,0,[]⟩]) ?_
  unfold bx
  rw[show fI true [⟨1,0,[]⟩]=false from rfl,hg]
  rfl
 cases hT:bg true s n c with
 |error x=>
  rw[hT]at hR
  cases hV:iV (bg false (c::r) 0 c)with
  |ok q=>rw[hV]at hR;exact hR.elim
  |error y=>rw[hV]at hR;exact Or.inl ⟨x,rfl,by rw[show x=y from hR]⟩
 |ok q=>
  rw[hT]at hR hfs
  have hk:=jX hq hT
  cases hV:iV (bg false (c::r) 0 c)with
  |error y=>rw[hV]at hR;exact hR.elim
  |ok p=>
   rw[hV]at hR
   obtain⟨h1,h2,h3⟩:=hR
   simp only at h1 h2 h3
   have hj:1≤p.2∧p.2≤(c::r).length:=by
    cases hVV:bg false (c::r) 0 c with
    |error y=>rw[hVV]at hV;cases hV
    |ok w=>
     rw[hVV]at hV
     rw[show (((c::r)[0]?).getD 0)=c from rfl,hVV]at hfv
     injection hV with hV
     rw[←hV]
     exact⟨hfv.1,hfv.2.1⟩
   refine Or.inr ⟨q.1,q.2.1,p.2,?_,?_,hj.1,hj.2,h2.1,?_,hfs.1,hfs.2.1⟩
   ·rw[←hk]
   ·rw[h1]
   ·have:=Dq (s:=s) (n:=n) p.2 h3
    rw[hv,←h2.1]at this
    rw[←this]
    unfold br ink
    rw[gp]
theorem GR {α:Type}{e:Int}(h:mh (.error e:Except Int α)):e≠0:=by
 rcases h with rfl|rfl|rfl|rfl<;>decide
instance (c:UInt8):Decidable (noQ c):=by unfold noQ;infer_instance
variable {μ:Mu}{out:List Tok}{sq:List UInt8}
theorem Ol (ρ:Rho)(a:List CV)(b:List UInt8)(μ:Mu):aG E ρ 54 [LV.osl a,LV.str b] μ=aG E ρ 54 [LV.cv (CV.sl a),LV.str b] μ:=by kernel_rfl
theorem MC {l:List (List UInt8)}{x:List UInt8}(hl:l.length≤1000000):aG E (ev E) 54 [LV.cv (CV.sl (bj l)),LV.str x] μ=some (.ret (LV.bool (l.contains x)) μ):=by
 have e:(bj l).length=l.length:=by simp[bj]
 have:=MQ (μ:=μ) (l:=l) (x:=x) hl l.length 0 false (by omega)
 have e0:((0:Nat):Int)=0:=rfl
 rw[e0,List.drop_zero,Bool.false_or]at this
 rw[O4,e,this,aa,EK]
theorem MB {l:List (List UInt8)}{x:List UInt8}(hl:l.length≤1000000):(ev E).call 54 [LV.osl (bj l),LV.str x] μ=some (.ret (LV.bool (l.contains x)) μ):=by
 refine aN ?_
 rw[Ol]
 exact MC hl
def qr (X:List CV→Int→Int→List UInt8→Mu→St)(Y:List UInt8→List CV→List UInt8→Int→Mu→St)(s:List UInt8)(out:List Tok)(sq:List UInt8)(m:Nat)(μ:Mu):Except Int (Tok×Nat×List Nat)→St
 | .error x=>X [] (m:Int) x [] μ
 | .ok q=>Y s (aB (out++[q.1])) (sq++br s m q) (q.2.1:Int) μ
theorem tl {t:Tok}:aB out++[t.cv]=aB (out++[t]):=by simp[aB]
theorem u2 {t:Tok}(ho:out.length≤200000):dQ 3 (aB out) [t.cv]=true:=by
 have:[t.cv]=aB [t]:=rfl
 rw[this]
 exact tF (by simp;omega)
theorem Ow (hs:s.length≤200000)(h0: ∀b∈s,b≠0)(ho:out.length≤200000)(hsq:sq.length≤200000){m:Nat}{c:UInt8}(hg:s[m]? =some c)(h32:c≠32)(hq:noQ c):
  FA (ev E) s (aB out) sq (m:Int) μ=some (qr pz pA s out sq m μ (bg true s m c)):=by
 refine aU ?_
 have hm:=cM hg
 obtain⟨r,hv,hcase⟩:=I1 h0 hg h32 hq
 have hvl:=Ii (s.drop m)
 rw[hv,List.length_drop]at hvl
 have hne:=Ly (s:=c::r) (n:=0) (c:=c) rfl h32
 rw[Jj,NO hs (by omega)]
 simp only[ad,ao,aa,ak,am,ah,ae,aj,aA,cond_true,cond_false,Bool.not_true,Bool.not_false,au,ar,aq]
 rw[hv,show (0:Int)=((0:Nat):Int)from rfl,NL (s:=c::r) (by omega) (by simp),ad,mr,show (c::r)[0]=c from rfl,hne]
 rcases hcase with⟨x,h1,h2⟩|⟨t,e,j,h1,h2,h3,h4,h5,h6,h7,h8⟩
 ·have hx0:x≠0:=by
   have:=wL (fx:=false) (s:=c::r) (n:=0) (out:=[])
   rw[uG,show (((c::r)[0]?).getD 0)=c from rfl]at this
   cases hV:bg false (c::r) 0 c with
   |ok q=>rw[hV]at h2;cases h2
   |error y=>
    rw[hV]at this h2
    injection h2 with h2
    rw[←h2]
    exact GR this
  rw[h1,h2]
  simp only[stB,qr]
  rw[show decide (x=((0:Nat):Int))=false from decide_eq_false (by simpa using hx0)]
  rfl
 ·rw[h1,h2]
  simp only[stB,qr]
  have hlen:(pl (s.drop m) m).length=(c::r).length:=by rw[qM,hv]
  obtain⟨p,hp⟩: ∃p,(pl (s.drop m) m)[j-1]? =some p:=⟨_,List.getElem?_eq_getElem (by omega)⟩
  have hpp:=HO (j-1) m p hp
  rw[show j-1+1=j from by omega,←h5]at hpp
  have hG:FB (ev E) s (aB out) sq (c::r) (aT (pl (s.drop m) m)) t.kind t.type t.text (j:Int) 0 μ=some (pB s (aB (out++[t])) (sq++br s m (t,e,[])) (e:Int) μ):=by
   refine aU ?_
   have hsl:cE (aT (pl (s.drop m) m)) ((j-1:Nat):Int)=some (CV.int .i64 (p:Int)):=by rw[c6];unfold aT;rw[List.getElem?_map,hp];rfl
   have hi:aH .i64 (LV.cv (CV.int .i64 (p:Int)))=some (p:Int):=am
   have hcut:bZ (c::r) (0:Int) (j:Int)=some (br s m (t,e,[])):=by
    have:=dD (l:=c::r) (a:=0) (e:=j) (by omega) h4
    rw[show ((0:Nat):Int)=0 from rfl]at this
    rw[this,List.drop_zero,Nat.sub_zero,h6]
   have hpl:(br s m (t,e,[])).length≤200000:=by rw[←h6,List.length_take];omega
   rw[Jk,show CV.agg [CV.int .i64 t.kind,CV.int .i64 t.type,CV.str t.text]=t.cv from rfl,u2 ho,aA,hcut,aa,bh (by omega),aA,uM (by omega) h3,hsl,aa,hi,aa,bQ (by omega),hpp,tl]
  rw[show decide ((0:Int)=((0:Nat):Int))=true from rfl,Bool.not_true,cond_false,hG,aa,Be]
def Kk (b:Bool)(s:List UInt8)(out:List Tok)(sq:List UInt8)(m:Nat)(μ:Mu):Except Int (Tok×Nat×List Nat)→St
 | .error x=>lX [] (m:Int) x [] μ
 | .ok q=>cond b lY pr s (aB (out++[q.1])) (sq++br s m q) (q.2.1:Int) μ
theorem Ov (hs:s.length≤200000)(h0: ∀b∈s,b≠0)(ho:out.length≤200000)(hsq:sq.length≤200000){m:Nat}{c:UInt8}(hg:s[m]? =some c)(h32:c≠32):
  (opt (mV (ev E) s (aB out) sq (m:Int) μ) (kS (ev E) H32 [] [(0,0),(7,1),(8,0),(9,0)]))=some (Kk (!decide (noQ c)) s out sq m μ (bg true s m c)):=by
 have hm:=cM hg
 have hsm:a7 s (m:Int)=some c:=by rw[gC];exact hg
 have hgd:(s[m]?).getD 0=c:=by rw[hg];rfl
 have hquo : ∀ (hc : c = 39 ∨ c = 34), callK ((ev E).call 81 [LV.str s, LV.int .i64 (m : Int)] μ) (fun v50 μ51 =>
   qw v50 fun n54 n55 s56 n57 n58=>
   cond (!decide (n58 = (0 : Int))) (
   some (ft [] (m:Int) n58 ([]:List UInt8) μ51)) (
   opt (tr (ev E) s (aB out) sq (m:Int) n54 n55 s56 n57 n58 μ51) (kS (ev E) H32 [.seq (cA 32 [1,1,1,1,1,0,0,0,1,0,1,1,1,1,1])] [(0,0),(7,1),(8,0),(9,0)]))) (pX pw)=some (qr ft lZ s out sq m μ (bg true s m c)):=by
  intro hc
  have hT:bg true s m c=cr s m:=by
   unfold bg
   rcases hc with rfl|rfl
   ·rw[if_neg (by decide),if_neg (by simp[show aw 39=false from rfl]),if_neg (by decide),if_pos (Or.inl rfl)]
   ·rw[if_neg (by decide),if_neg (by simp[show aw 34=false from rfl]),if_neg (by decide),if_pos (Or.inr rfl)]
  have hf:=rX (s:=s) hm
  rw[KC hs hm,ad,mr,hT]
  unfold cr at hf ⊢
  cases hQ:dV s m with
  |error x=>
   have hx:x≠0:=by have:=uy (s:=s) (n:=m);rw[hQ]at this;exact GR this
   simp only[stB,qr]
   rw[decide_eq_false hx];rfl
  |ok q=>
   rw[hQ]at hf
   obtain⟨f1,f2,f3⟩:=hf
   simp only at f1 f2
   simp only[stB,qr]
   have hp:br s m (q.1,q.2,List.range' m (q.2-m))=(s.drop m).take (q.2-m):=by
    unfold br
    refine iJ _ _ fun j k1 k2=> ?_
    simp only[List.length_take,List.length_drop]at k2
    rw[List.mem_range'_1]
    omega
   have hG:tr (ev E) s (aB out) sq (m:Int) q.1.kind q.1.type q.1.text (q.2:Int) 0 μ=some (py s (aB (out++[q.1])) (sq++br s m (q.1,q.2,List.range' m (q.2-m))) (q.2:Int) μ):=by
    refine aU ?_
    rw[Ji,show CV.agg [CV.int .i64 q.1.kind,CV.int .i64 q.1.type,CV.str q.1.text]=q.1.cv from rfl,u2 ho,aA,dD (by omega) f2,aa,bh (by simp;omega),aA,hp,tl]
   simp only[decide_true,Bool.not_true,cond_false]
   rw[hG,aa,Bb]
 by_cases hc:c=39∨c=34
 ·have hnq: ¬noQ c:=fun h=>hc.elim h.1 h.2
  have hG:mV (ev E) s (aB out) sq (m:Int) μ=some (qr ft lZ s out sq m μ (bg true s m c)):=by
   refine aU ?_
   rw[zd,hsm,aa,IF,hquo hc,aa,IE]
   rcases hc with rfl|rfl
   ·rfl
   ·rfl
  rw[hG,aa,decide_eq_false hnq]
  cases bg true s m c with
  |error x=>exact rF _ _ _ _ _ _
  |ok q=>exact A9 _ _ _ _ _ _
 ·have hnq:noQ c:=⟨fun e=>hc (Or.inl e),fun e=>hc (Or.inr e)⟩
  have hG:mV (ev E) s (aB out) sq (m:Int) μ=some (qr ft px s out sq m μ (bg true s m c)):=by
   refine aU ?_
   rw[zd,hsm,aa,IF,aa,IE,decide_eq_false hnq.1,decide_eq_false hnq.2,cond_false,cond_false,Ow hs h0 ho hsq hg h32 hnq,aa]
   cases bg true s m c with
   |error x=>exact Bc _ _ _ _ _ _
   |ok q=>exact Bd _ _ _ _ _ _
  rw[hG,aa,decide_eq_true hnq]
  cases bg true s m c with
  |error x=>exact rF _ _ _ _ _ _
  |ok q=>exact Ba _ _ _ _ _ _
end
end Go.Abs
set_option linter.unusedVariables false
set_option linter.unusedSimpArgs false
set_option maxRecDepth 100000
namespace Go.Abs
open Go Go.Proofs
section
variable {s:List UInt8}{μ:Mu}{out:List Tok}{sq:List UInt8}
theorem wC {m f k:Nat}(h1:m≤f)(h2:f+k≤s.length){t:Tok}:br s m (t,f+k,List.range' f k)=ink ((s.drop m).take (f-m))++(s.drop f).take k:=by
 unfold br
 simp only
 have e:f+k-m=(f-m)+k:=by omega
 have hd:(s.drop m).drop (f-m)=s.drop f:=by rw[List.drop_drop];congr 1;omega
 have hl:((s.drop m).take (f-m)).length=f-m:=by rw[List.length_take,List.length_drop];omega
 rw[e,List.take_add,eK,hd,hl]
 congr 1
 ·unfold ink
  rw[gp _ 0 m]
  refine ee _ _ fun j k1 k2=> ?_
  rw[hl]at k2
  rw[List.mem_range'_1]
  constructor
  ·intro h;omega
  ·intro h;cases h
 ·refine iJ _ _ fun j k1 k2=> ?_
  rw[List.length_take,List.length_drop]at k2
  rw[List.mem_range'_1]
  omega
theorem Lx (hs:s.length≤200000){f:Nat}(hf:f≤s.length){N:Int}{o:List CV}: ∀(k m:Nat) (x:List UInt8),m+k=f→x.length≤300000+m→
  tx (ev E) s o x (m:Int) N (f:Int) μ=some (me s o (x++ink ((s.drop m).take (f-m))) N (f:Int) μ):=by
 intro k
 induction k with
 |zero=>
  intro m x hm hx
  refine aV ?_
  rw[zl,cS (by omega),cond_false,show f-m=0 from by omega,List.take_zero]
  show _=some (me s o (x++[]) N (f:Int) μ)
  rw[List.append_nil]
 |succ k ih=>
  intro m x hm hx
  refine aV ?_
  have hlt:m<s.length:=by omega
  have hd:s.drop m=s[m]::s.drop (m+1):=List.drop_eq_getElem_cons hlt
  have ht:(s.drop m).take (f-m)=s[m]::(s.drop (m+1)).take (f-(m+1)):=by
   rw[hd,show f-m=(f-(m+1))+1 from by omega,List.take_succ_cons]
  rw[zl,cN (by omega),cond_true,bJ hlt,aa,e32,bQ (by omega),u6 hlt,aa,bh (by simp;omega),aA,ih (m+1) x (by omega) (by omega),ih (m+1) (x++[s[m]]) (by omega) (by simp;omega),ht,fF]
  by_cases h32:s[m]=32
  ·rw[decide_eq_true h32,if_pos h32];rfl
  ·rw[decide_eq_false h32,if_neg h32];simp
theorem Nk (hs:s.length≤200000)(ho:out.length≤200000)(hsq:sq.length≤200000){m f k:Nat}(h1:m≤f)(h2:f+k≤s.length):
  Fz (ev E) s (aB out) sq (m:Int) (k:Int) (f:Int) μ=some (pt s (aB (out++[⟨1,6,eF ((s.drop f).take k)⟩])) (sq++br s m (⟨1,6,eF ((s.drop f).take k)⟩,f+k,List.range' f k)) ((f+k:Nat):Int) μ):=by
 refine aU ?_
 have hw:IntKind.wrap .i64 ((f:Int)+(k:Int))=((f+k:Nat):Int):=fp (by omega)
 have hcut:bZ s (f:Int) ((f+k:Nat):Int)=some ((s.drop f).take k):=by
  rw[dD (by omega) h2];congr 2;omega
 have hl:((s.drop f).take k).length≤200000:=by rw[List.length_take,List.length_drop];omega
 rw[Jh,hw,hcut,aa,Kr hl]
 simp only[ad,ao,aa,ak,am,ah,ae,aj,aA,cond_true,cond_false,Bool.not_true,Bool.not_false,au,ar,aq]
 rw[show CV.agg [CV.int .i64 (1:Int),CV.int .i64 (6:Int),CV.str (eF ((s.drop f).take k))]=Tok.cv ⟨1,6,eF ((s.drop f).take k)⟩from rfl,u2 ho,aA,tl,Lx hs (by omega) (f-m) m sq (by omega) (by omega),aa,Bx,hw,hcut,aa]
 have hil: ∀(l:List UInt8),(ink l).length≤l.length:=by
  intro l
  induction l with
  |nil=>exact Nat.le_refl _
  |cons c r ih=>rw[fF];split<;>simp<;>omega
 have:=hil ((s.drop m).take (f-m))
 rw[List.length_take,List.length_drop]at this
 rw[bh (by simp only[List.length_append,List.length_take,List.length_drop];omega),aA,wC h1 h2,List.append_assoc]
theorem Nj (hs:s.length≤200000)(h0: ∀b∈s,b≠0)(ho:out.length≤200000)(hsq:sq.length≤200000){m:Nat}{c:UInt8}(hg:s[m]? =some c)(h32:c≠32):
  ∃b:Bool,o7 (ev E) s (aB out) sq (m:Int) (fI true out) μ=some (Kk b s out sq m μ (bx true s out m)):=by
 have hm:=cM hg
 have hsm:a7 s (m:Int)=some c:=by rw[gC];exact hg
 have hgd:(s[m]?).getD 0=c:=by rw[hg];rfl
 have h26:=Ov (μ:=μ) hs h0 ho hsq hg h32
 have hK: ¬(fI true out&&aw c&&decide (co true s m))=true→bx true s out m=bg true s m c:=by
  intro h
  unfold bx
  rw[hgd,if_neg h]
 by_cases hh:(fI true out&&aw c&&decide (co true s m))=true
 ·have hh':=hh
  simp only[Bool.and_eq_true,decide_eq_true_eq]at hh'
  obtain⟨⟨hm1,hdg⟩,hok⟩:=hh'
  have hc0:c≠0:=h0 c (List.mem_of_getElem? hg)
  have hrun:bk true aw s m≠[]:=by
   obtain⟨a1,a2⟩:=e8 (fx:=true) hg h32
   rw[(gB (fx:=true) (s:=s) (p:=aw) (n:=m) (by rw[a1,hdg];simp[hc0])).1]
   simp
  obtain⟨x,y,l1,l2⟩:=KB (μ:=μ) hs (by omega) hrun
  obtain⟨rfl,rfl⟩:=l2 hok
  rw[decide_eq_true hok]at l1
  obtain⟨k,hk⟩: ∃k:Nat,bR true s m=(k:Int):=⟨(bR true s m).toNat,by have:=hok.2.1;omega⟩
  have hk60:k≤60:=by have:=hok.2.2.1;omega
  have hfE:holE true s m≤s.length:=fa (fk (by omega))
  have hmE:m≤holE true s m:=Nat.le_trans gU fP
  have hT:bx true s out m=if s.length<holE true s m+k then .error 7 else .ok (⟨1,6,eF ((s.drop (holE true s m)).take k)⟩,holE true s m+k,List.range' (holE true s m) k):=by
   unfold bx
   rw[hgd,if_pos hh]
   unfold jw
   rw[hk,Int.toNat_natCast]
  refine⟨true,aU ?_⟩
  rw[zb,hsm,aa,ow]
  simp only[ad,ao,aa,ak,am,ah,ae,aj,aA,cond_true,cond_false,Bool.not_true,Bool.not_false,au,ar,aq]
  rw[hdg,cond_true,hm1,cond_true,l1]
  simp only[ad,ao,aa,ak,am,ah,ae,aj,aA,cond_true,cond_false,Bool.not_true,Bool.not_false,au,ar,aq]
  rw[hk,fp (by omega),hT]
  by_cases hlen:s.length<holE true s m+k
  ·rw[if_pos hlen,cN hlen];rfl
  ·rw[if_neg hlen,cS (by omega),cond_false,Nk hs ho hsq hmE (by omega),aa,A8]
   rfl
 ·refine⟨!decide (noQ c),aU ?_⟩
  rw[zb,hsm,aa,ow]
  simp only[ad,ao,aa,ak,am,ah,ae,aj,aA,cond_true,cond_false,Bool.not_true,Bool.not_false,au,ar,aq]
  rw[h26,hK hh]
  cases hdg:aw c with
  |false=>rfl
  |true=>
   rw[cond_true]
   cases hm1:fI true out with
   |false=>rfl
   |true=>
    rw[cond_true]
    have hc0:c≠0:=h0 c (List.mem_of_getElem? hg)
    have hrun:bk true aw s m≠[]:=by
     obtain⟨a1,a2⟩:=e8 (fx:=true) hg h32
     rw[(gB (fx:=true) (s:=s) (p:=aw) (n:=m) (by rw[a1,hdg];simp[hc0])).1]
     simp
    obtain⟨x,y,l1,_⟩:=KB (μ:=μ) hs (by omega) hrun
    have hno:decide (co true s m)=false:=by
     cases hq:decide (co true s m)with
     |false=>rfl
     |true=>rw[hm1,hdg,hq]at hh;exact absurd rfl hh
    rw[hno]at l1
    rw[l1]
    simp only[ad,ao,aa,ak,am,ah,ae,aj,aA,cond_true,cond_false,Bool.not_true,Bool.not_false,au,ar,aq]
    exact h26
theorem Nq (hs:s.length≤200000)(h0: ∀b∈s,b≠0)(ho:out.length≤200000)(hsq:sq.length≤200000){m:Nat}{c:UInt8}(hg:s[m]? =some c)(h32:c≠32):
  (opt (xA (ev E) s (aB out) sq (m:Int) μ) (kR (ev E) H32 [.block 1] [(7,1),(8,0)] (cA 32 [1,1,1,1,1,0,0,0])))=match bx true s out m with| .error x=>some (nR [] (m:Int) x [] μ)| .ok q=>lP (ev E) s (aB (out++[q.1])) (sq++br s m q) (q.2.1:Int) μ:=by
 obtain⟨b,h14⟩:=Nj (μ:=μ) hs h0 ho hsq hg h32
 have hlen:(aB out).length=out.length:=by simp[aB]
 have hk:(opt (o7 (ev E) s (aB out) sq (m:Int) (fI true out) μ) (kS (ev E) H32 [] [(0,0),(7,1),(8,0),(9,0)]))=some (match bx true s out m with| .error x=>lU [] (m:Int) x [] μ| .ok q=>cond b lV lW s (aB (out++[q.1])) (sq++br s m q) (q.2.1:Int) μ):=by
  rw[h14,aa]
  cases bx true s out m with
  |error x=>exact A5 _ _ _ _ _ _
  |ok q=>
   cases b with
   |true=>exact A6 _ _ _ _ _ _
   |false=>exact A7 _ _ _ _ _ _
 have hG:xA (ev E) s (aB out) sq (m:Int) μ=some (match bx true s out m with| .error x=>lU [] (m:Int) x [] μ| .ok q=>cond b lV lW s (aB (out++[q.1])) (sq++br s m q) (q.2.1:Int) μ):=by
  refine aU ?_
  rw[Jg,hlen]
  by_cases he:out=[]
  ·subst he
   rw[show decide ((0:Int)<(([]:List Tok).length:Int))=false from rfl,cond_false,show decide ((([]:List Tok).length:Int)=0)=fI true []from rfl]
   exact hk
  ·have hpos:0<out.length:=by
    cases out with
    |nil=>exact absurd rfl he
    |cons a r=>simp
   have hgl:out.getLast?=some (out.getLast he):=List.getLast?_eq_some_getLast he
   have e2:(aB out)[out.length-1]? =some (out.getLast he).cv:=by
    unfold aB
    rw[List.getElem?_map,List.getElem?_eq_getElem (by omega),List.getLast_eq_getElem]
    rfl
   rw [decide_eq_true (by omega : (0 : Int) < (out.length : Int)), cond_true, uM (by omega) (by omega), c6, e2, aa, cx, aa, cx,
    show LV.osl [CV.str ([40]:List UInt8),CV.str ([44]:List UInt8),CV.str ([47]:List UInt8),CV.str ([61]:List UInt8)]=LV.osl (bj [[40],[44],[47],[61]])from rfl,MB (by simp)]
   simp only[ad,ao,aa,ak,am,ah,ae,aj,aA,cond_true,cond_false,Bool.not_true,Bool.not_false,au,ar,aq]
   have hmay:fI true out=(decide ((out.getLast he).kind=2)&&[[40],[44],[47],[61]].contains (out.getLast he).text):=by
    unfold fI;rw[hgl];rfl
   by_cases hkd:(out.getLast he).kind=2
   ·rw[decide_eq_true hkd,cond_true]
    rw[decide_eq_true hkd,Bool.true_and]at hmay
    rw[←hmay]
    exact hk
   ·rw[decide_eq_false hkd,cond_false]
    rw[decide_eq_false hkd,Bool.false_and]at hmay
    rw[decide_eq_false (by omega: ¬(out.length:Int)=0),←hmay]
    exact hk
 rw[hG,aa]
 cases bx true s out m with
 |error x=>exact A2 _ _ _ _ _ _
 |ok q=>
  cases b with
  |true=>exact A3 _ _ _ _ _ _
  |false=>exact A4 _ _ _ _ _ _
def kD (s:List UInt8):Nat→Nat→List Tok→List UInt8→Option (Nat×Int)×List Tok×List UInt8
 |0,_,out,sq=>(none,out,sq)
 |k+1,n,out,sq=>
  if s.length≤n+aK (s.drop n)then(none,out,sq)
  else match bx true s out (n+aK (s.drop n))with
   | .error e=>(some (n+aK (s.drop n),e),out,sq)
   | .ok q=>kD s k q.2.1 (out++[q.1]) (sq++br s (n+aK (s.drop n)) q)
def II (μ:Mu):Option (Nat×Int)×List Tok×List UInt8→St
 |(none,out,sq)=>sE (aB out) sq μ
 |(some w,_,_)=>nR [] (w.1:Int) w.2 [] μ
theorem No (hs:s.length≤200000){st:St}: ∀(k n:Nat),aK (s.drop n)=k→n≤s.length→lP (ev E) s (aB out) sq ((n+k:Nat):Int) μ=some st→lP (ev E) s (aB out) sq (n:Int) μ=some st:=by
 intro k
 induction k with
 |zero=>intro n h1 h2 h3;exact h3
 |succ k ih=>
  intro n h1 h2 h3
  have hlt:n<s.length:=by
   refine Classical.byContradiction fun h=> ?_
   rw[List.drop_eq_nil_of_le (by omega)]at h1
   exact absurd h1 (by simp[aK])
  have hd:s.drop n=s[n]::s.drop (n+1):=List.drop_eq_getElem_cons hlt
  have h32:s[n]=32:=by
   refine Classical.byContradiction fun h=> ?_
   rw[hd,aK,if_neg h]at h1
   cases h1
  rw[hd,aK,if_pos h32]at h1
  refine aV ?_
  rw[vu,cN hlt,cond_true,bJ hlt,aa,e32,decide_eq_true h32,cond_true,bQ (by omega)]
  exact ih (n+1) (by omega) (by omega) (by rw[show n+1+k=n+(k+1)from by omega];exact h3)
theorem HN {m:Nat}{q:Tok×Nat×List Nat}:(br s m q).length≤q.2.1-m:=by
 have: ∀(K:List Nat) (l:List UInt8) (i:Nat),(bi K l i).length≤l.length:=by
  intro K l
  induction l with
  |nil=>intro i;exact Nat.le_refl _
  |cons c r ih=>
   intro i
   have:=ih (i+1)
   rw[bi]
   split<;>simp<;>omega
 have h:=this q.2.2 ((s.drop m).take (q.2.1-m)) m
 unfold br
 rw[List.length_take]at h
 omega
theorem MN (hs:s.length≤200000)(h0: ∀b∈s,b≠0): ∀(k n:Nat) (out:List Tok) (sq:List UInt8),s.length<n+k→n≤s.length→out.length≤n→sq.length≤n→
  lP (ev E) s (aB out) sq (n:Int) μ=some (II μ (kD s k n out sq)):=by
 intro k
 induction k with
 |zero=>intro n out sq h1 h2;omega
 |succ k ih=>
  intro n out sq h1 h2 h3 h4
  refine No hs _ n rfl h2 ?_
  have hb:=iF (s.drop n)
  rw[List.length_drop]at hb
  unfold kD
  by_cases hlen:s.length≤n+aK (s.drop n)
  ·rw[if_pos hlen]
   refine aV ?_
   rw[vu,cS hlen,cond_false]
   rfl
  ·rw[if_neg hlen]
   obtain⟨c,hg,h32⟩:=gK (s:=s) (n:=n) (by omega)
   obtain⟨m,hm⟩: ∃m,m=n+aK (s.drop n):=⟨_,rfl⟩
   rw[←hm]at hlen hg ⊢
   have hf:=dL (fx:=true) (out:=out) hg h32
   refine aV ?_
   have hmlt:=cM hg
   have hgg:s[m]=c:=by rw[List.getElem?_eq_getElem hmlt]at hg;injection hg
   rw[vu,cN hmlt,cond_true,bJ hmlt,aa,e32,hgg,decide_eq_false h32,cond_false,Nq hs h0 (by omega) (by omega) hg h32]
   cases hT:bx true s out m with
   |error x=>rfl
   |ok q=>
    rw[hT]at hf
    obtain⟨f1,f2,f3⟩:=hf
    have hpl:=HN (s:=s) (m:=m) (q:=q)
    exact ih q.2.1 _ _ (by omega) f2 (by simp;omega) (by simp;omega)
theorem t8 {m:Nat}{q:Tok×Nat×List Nat}(h:bx true s out m= .ok q): ∀j∈q.2.2,m≤j∧j<q.2.1:=by
 intro j hj
 unfold bx at h
 split at h
 ·unfold jw at h
  split at h
  ·cases h
  ·injection h with h
   rw[←h]at hj ⊢
   simp only[List.mem_range'_1]at hj ⊢
   have:m≤holE true s m:=Nat.le_trans gU fP
   omega
 ·by_cases hq:noQ ((s[m]?).getD 0)
  ·rw[jX hq h]at hj;cases hj
  ·have hc:(s[m]?).getD 0=39∨(s[m]?).getD 0=34:=by
    refine Classical.byContradiction fun e=>hq ⟨fun h=>e (Or.inl h),fun h=>e (Or.inr h)⟩
   have hT:bg true s m ((s[m]?).getD 0)=cr s m:=by
    unfold bg
    rcases hc with hc|hc<;>rw[hc]
    ·rw[if_neg (by decide),if_neg (by simp[show aw 39=false from rfl]),if_neg (by decide),if_pos (Or.inl rfl)]
    ·rw[if_neg (by decide),if_neg (by simp[show aw 34=false from rfl]),if_neg (by decide),if_pos (Or.inr rfl)]
   rw[hT]at h
   unfold cr at h
   split at h
   ·injection h with h
    rw[←h]at hj ⊢
    simp only[List.mem_range'_1]at hj ⊢
    omega
   ·cases h
theorem qC: ∀(k n:Nat) (out:List Tok) (kept:List Nat) (sq:List UInt8),n≤s.length→s.length<n+k→
  (kD s k n out sq).1=(bG true s k n out kept).1∧(kD s k n out sq).2.1=(bG true s k n out kept).2.1∧
  ((bG true s k n out kept).1=none→ ∃K,(bG true s k n out kept).2.2=kept++K∧(∀j∈K,n≤j∧j<s.length)∧(kD s k n out sq).2.2=sq++bi K (s.drop n) n):=by
 intro k
 induction k with
 |zero=>intro n out kept sq h1 h2;omega
 |succ k ih=>
  intro n out kept sq h1 h2
  unfold kD bG
  have hb:=iF (s.drop n)
  rw[List.length_drop]at hb
  by_cases hlen:s.length≤n+aK (s.drop n)
  ·rw[if_pos hlen,if_pos hlen]
   refine⟨rfl,rfl,fun _=>⟨[],by simp,fun j hj=>(by cases hj),?_⟩⟩
   have hall:bi [] (s.drop n) n=[]:=by
    have ht:(s.drop n).take (aK (s.drop n))=s.drop n:=List.take_of_length_le (by rw[List.length_drop];omega)
    have:=gJ (s.drop n)
    rw[ht]at this
    exact fX _ _ this (fun j _ _ h=>by cases h)
   rw[hall,List.append_nil]
  ·rw[if_neg hlen,if_neg hlen]
   obtain⟨c,hg,h32⟩:=gK (s:=s) (n:=n) (by omega)
   obtain⟨m,hm⟩: ∃m,m=n+aK (s.drop n):=⟨_,rfl⟩
   rw[←hm]at hlen hg ⊢
   have hf:=dL (fx:=true) (out:=out) hg h32
   cases hT:bx true s out m with
   |error x=>exact⟨rfl,rfl,fun h=>by cases h⟩
   |ok q=>
    rw[hT]at hf
    obtain⟨f1,f2,f3⟩:=hf
    simp only
    obtain⟨a1,a2,a3⟩:=ih q.2.1 (out++[q.1]) (kept++q.2.2) (sq++br s m q) f2 (by omega)
    refine⟨a1,a2,fun hn=> ?_⟩
    obtain⟨K,b1,b2,b3⟩:=a3 hn
    have hkr: ∀j∈q.2.2,m≤j∧j<q.2.1:=t8 hT
    refine⟨q.2.2++K,by rw[b1,List.append_assoc],fun j hj=> ?_,?_⟩
    ·rcases List.mem_append.1 hj with hj|hj
     ·have:=hkr j hj;omega
     ·have:=b2 j hj;omega
    ·rw[b3,List.append_assoc]
     congr 1
     have e1:s.drop n=(s.drop n).take (m-n)++((s.drop m).take (q.2.1-m)++s.drop q.2.1):=by
      have h1:(s.drop n).drop (m-n)=s.drop m:=by rw[List.drop_drop];congr 1;omega
      have h2:(s.drop m).drop (q.2.1-m)=s.drop q.2.1:=by rw[List.drop_drop];congr 1;omega
      rw[←h2,List.take_append_drop,←h1,List.take_append_drop]
     have l1:((s.drop n).take (m-n)).length=m-n:=by rw[List.length_take,List.length_drop];omega
     have l2:((s.drop m).take (q.2.1-m)).length=q.2.1-m:=by rw[List.length_take,List.length_drop];omega
     conv=>rhs;rw[e1]
     rw[eK,eK,l1,l2,show n+(m-n)=m from by omega,show m+(q.2.1-m)=q.2.1 from by omega]
     have hz:bi (q.2.2++K) ((s.drop n).take (m-n)) n=[]:=by
      have hmn:m-n=aK (s.drop n):=by omega
      refine fX _ _ (by rw[hmn];exact gJ _) fun j k1 k2 hj=> ?_
      rw[l1]at k2
      rcases List.mem_append.1 hj with hj|hj
      ·have:=hkr j hj;omega
      ·have:=b2 j hj;omega
     rw[hz,List.nil_append]
     congr 1
     ·unfold br
      refine ee _ _ fun j k1 k2=> ?_
      rw[l2]at k2
      rw[List.mem_append]
      constructor
      ·exact fun h=>Or.inl h
      ·rintro(h|h)
       ·exact h
       ·have:=b2 j h;omega
     ·refine ee _ _ fun j k1 k2=> ?_
      rw[List.mem_append]
      constructor
      ·exact fun h=>Or.inr h
      ·rintro(h|h)
       ·have:=hkr j h;omega
       ·exact h
end
end Go.Abs
set_option linter.unusedVariables false
set_option linter.unusedSimpArgs false
namespace Go.Abs
open Go Go.Proofs
def hd (u:List UInt8):UInt8:=(u[0]?).getD 0
theorem yC {a b:List UInt8}:(a++b).drop a.length=b:=List.drop_left' rfl
section
variable {W P y:List UInt8}
end
end Go.Abs
set_option linter.unusedVariables false
set_option linter.unusedSimpArgs false
set_option maxRecDepth 100000
namespace Go.Abs
open Go Go.Proofs
section
variable {s a:List UInt8}{n p:Nat}
def RB (s a:List UInt8)(n p i j:Nat):Prop:= ∃k,i=bM s n k∧j=bM a p k∧ink (s.drop i)=ink (a.drop j)∧(∀l,l<k→atC true s (bM s n l)≠0∧atC true a (bM a p l)≠0)
theorem sS: ∀(l:List UInt8),ink l=ink (l.drop (aK l))
 |[]=>rfl
 |c::r=>by
  by_cases hc:c=32
  ·rw[fF,if_pos hc,aK,if_pos hc,List.drop_succ_cons];exact sS r
  ·rw[aK,if_neg hc];rfl
theorem tW (hs: ∀b∈s,b≠0):(atC true s n=0∧ink (s.drop n)=[])∨(atC true s n≠0∧ink (s.drop n)=atC true s n::ink (s.drop (atE true s n))):=by
 rcases ir s n with⟨h1,h2⟩|⟨c,h1,h2,h3,_⟩
 ·exact Or.inl ⟨h2,by rw[sS,h1];rfl⟩
 ·have hc:c∈s:=List.mem_of_mem_drop (List.mem_of_mem_drop (by rw[h1];simp))
  refine Or.inr ⟨by rw[h2];exact hs c hc,?_⟩
  rw[sS,h1,fF,if_neg h3,h2]
theorem Nm (hs: ∀b∈s,b≠0)(ha: ∀b∈a,b≠0):Sim true s true a (RB s a n p):=by
 constructor
 ·rintro i j ⟨k,h1,h2,h3,h4⟩
  rcases tW (n:=i) hs with⟨a1,a2⟩|⟨a1,a2⟩<;>rcases tW (n:=j) ha with⟨b1,b2⟩|⟨b1,b2⟩
  ·rw[a1,b1]
  ·rw[a2,b2]at h3;cases h3
  ·rw[a2,b2]at h3;cases h3
  ·rw[a2,b2]at h3;injection h3
 ·rintro i j ⟨k,h1,h2,h3,h4⟩ h0 hq
  rcases tW (n:=i) hs with⟨a1,a2⟩|⟨a1,a2⟩
  ·exact absurd a1 h0
  ·rcases tW (n:=j) ha with⟨b1,b2⟩|⟨b1,b2⟩
   ·rw[a2,b2]at h3;cases h3
   ·rw[a2,b2]at h3
    injection h3 with h3 h5
    refine⟨k+1,by rw[h1];rfl,by rw[h2];rfl,h5,fun l hl=> ?_⟩
    rcases Nat.lt_or_ge l k with h6|h6
    ·exact h4 l h6
    ·have:l=k:=by omega
     subst this
     rw[←h1,←h2]
     exact⟨a1,b1⟩
theorem L7 (h:ink (s.drop n)=ink (a.drop p)):RB s a n p n p:=⟨0,rfl,rfl,h,fun l hl=>by omega⟩
theorem Di {x y:List UInt8}(hx: ∀c∈x,c≠32)(hp:a.drop p=x++y): ∀k,k≤x.length→bM a p k=p+k
 |0,_=>rfl
 |k+1,hk=>by
  have ih:=Di hx hp k (by omega)
  show atE true a (bM a p k)=p+(k+1)
  have hg:a[p+k]? =some x[k]:=by
   have:(a.drop p)[k]? =some x[k]:=by rw[hp,List.getElem?_append_left (by omega),List.getElem?_eq_getElem (by omega)]
   rw[List.getElem?_drop]at this
   exact this
  rw[ih,(e8 (fx:=true) hg (hx _ (List.getElem_mem _))).2]
  rfl
theorem HS {q:UInt8}: ∀(m:Nat) (l:List UInt8),l.length≤m→ ∀t k,bP q l=some (t,k)→ ∀y,(∀c r,y=c::r→c≠q)→bP q (l.take k++y)=some (t,k):=by
 intro m
 induction m with
 |zero=>
  intro l hl t k h
  have:l=[]:=List.eq_nil_of_length_eq_zero (by omega)
  subst this
  cases h
 |succ m ih=>
  intro l hl t k h y hy
  cases l with
  |nil=>cases h
  |cons c r=>
   simp only[List.length_cons]at hl
   by_cases hc:c=q
   ·subst hc
    have hend:(∀d t,r=d::t→d≠c)→bP c ((c::r).take k++y)=some (t,k):=by
     intro hr
     rw[gz hr]at h
     injection h with h
     injection h with h1 h2
     subst h1 h2
     show bP c (c::([]++y))=_
     rw[List.nil_append]
     exact gz hy
    cases r with
    |nil=>exact hend (fun d t h=>by cases h)
    |cons d r=>
     by_cases hd:d=c
     ·subst hd
      rw[kw]at h
      cases hq:bP d r with
      |none=>rw[hq]at h;cases h
      |some x=>
       rw[hq]at h
       simp only[Option.map_some,Option.some.injEq,Prod.mk.injEq]at h
       obtain⟨rfl,rfl⟩:=h
       simp only[List.length_cons]at hl
       have:=ih r (by omega) x.1 x.2 hq y hy
       rw[show (d::d::r).take (x.2+2)++y=d::d::(r.take x.2++y)from rfl,kw,this]
       rfl
     ·exact hend (fun e t h=>by injection h with h _;rw[←h];exact hd)
   ·rw[jF hc]at h
    cases hq:bP q r with
    |none=>rw[hq]at h;cases h
    |some x=>
     rw[hq]at h
     simp only[Option.map_some,Option.some.injEq,Prod.mk.injEq]at h
     obtain⟨rfl,rfl⟩:=h
     have:=ih r (by omega) x.1 x.2 hq y hy
     rw[show (c::r).take (x.2+1)++y=c::(r.take x.2++y)from rfl,jF hc,this]
     rfl
def jx (t:Tok):Prop:=t.kind=1∧t.type=6
theorem IN {out:List Tok}(hs: ∀b∈s,b≠0)(ha: ∀b∈a,b≠0)(h:ink (s.drop n)=ink (a.drop p)):(co true s n↔co true a p)∧bR true s n=bR true a p∧(co true s n→RB s a n p (holE true s n) (holE true a p)):=by
 have S:=Nm (n:=n) (p:=p) hs ha
 obtain⟨r1,r2⟩:=jH S (p:=aw) (fun c=>q5) (L7 h)
 have hc:=S.ch _ _ r2
 have hN:bR true s n=bR true a p:=by unfold bR;rw[r1]
 have hC:dZ true s n=dZ true a p:=hc
 refine⟨by unfold co;rw[r1,hN,hC],hN,fun hok=> ?_⟩
 have h72:=hok.2.2.2
 refine S.nx _ _ r2 ?_ ?_
 ·show dZ true s n≠0
  rcases h72 with h|h<;>rw[h]<;>decide
 ·show noQ (dZ true s n)
  rcases h72 with h|h<;>rw[h]<;>exact⟨by decide,by decide⟩
theorem FP {i j:Nat}(h:RB s a n p i j){x y:List UInt8}(hx: ∀c∈x,c≠32)(hp:a.drop p=x++y)(hlen:(ink ((s.drop n).take (i-n))).length=x.length):j=p+x.length:=by
 obtain⟨k,h1,h2,_,h4⟩:=h
 have hk:=CR (s:=s) (n:=n) k (fun l hl=>(h4 l hl).1)
 rw[←h1,hlen]at hk
 rw[h2,Di hx hp k (by omega),hk]
theorem Fm {out:List Tok}{q:Tok×Nat×List Nat}{y:List UInt8}{c:UInt8}(hs: ∀b∈s,b≠0)(ha: ∀b∈a,b≠0)(hg:s[n]? =some c)(h32:c≠32)(hT:bx true s out n= .ok q)
  (hp:a.drop p=br s n q++y) (hink:ink y=ink (s.drop q.2.1)) (hy:jx q.1→ ∀d r,y=d::r→noQ d):
  ∃kp,bx true a out p= .ok (q.1,p+(br s n q).length,kp)∧bi kp (br s n q) p=br s n q∧(∀j∈kp,p≤j∧j<p+(br s n q).length)∧ ∃r,br s n q=c::r:=by
 have hn:=cM hg
 have hf:=dL (fx:=true) (out:=out) hg h32
 rw[hT]at hf
 obtain⟨f1,f2,f3⟩:=hf
 have hgd:(s[n]?).getD 0=c:=by rw[hg];rfl
 have hd1:(s.drop n).take (q.2.1-n)=c::(s.drop (n+1)).take (q.2.1-n-1):=by
  rw[List.drop_eq_getElem_cons hn,show q.2.1-n=(q.2.1-n-1)+1 from by omega,List.take_succ_cons]
  rw[List.getElem?_eq_getElem hn]at hg
  injection hg with hg
  rw[hg,Nat.add_sub_cancel]
 have hhead: ∃r,br s n q=c::r:=by
  unfold br
  rw[hd1,bi,if_pos (Or.inl h32)]
  exact⟨_,rfl⟩
 obtain⟨r,hr⟩:=hhead
 have hga:a[p]? =some c:=by
  have:(a.drop p)[0]? =some c:=by rw[hp,hr];rfl
  rw[List.getElem?_drop,Nat.add_zero]at this
  exact this
 have hgad:(a[p]?).getD 0=c:=by rw[hga];rfl
 have hsplit:s.drop n=(s.drop n).take (q.2.1-n)++s.drop q.2.1:=by
  have h2:(s.drop n).drop (q.2.1-n)=s.drop q.2.1:=by rw[List.drop_drop];congr 1;omega
  rw[←h2,List.take_append_drop]
 have hsame:ink (s.drop n)=ink (a.drop p):=by
  rw[hp,nc,hink]
  conv=>lhs;rw[hsplit]
  rw[nc]
  congr 1
  unfold br
  rw[ot]
 obtain⟨k1,k2,k3⟩:=IN (out:=out) hs ha hsame
 unfold bx at hT ⊢
 rw[hgd]at hT
 rw[hgad]
 by_cases hh:(fI true out&&aw c&&decide (co true s n))=true
 ·rw[if_pos hh]at hT
  have hh2:=hh
  simp only[Bool.and_eq_true,decide_eq_true_eq]at hh2
  have hok:=hh2.2
  rw[if_pos (by rw[decide_eq_true (k1.1 hok)];rw[hh2.1.1,hh2.1.2];rfl)]
  unfold jw at hT
  split at hT
  ·cases hT
  ·rename_i hlen
   injection hT with hT
   obtain⟨k,hk⟩: ∃k:Nat,bR true s n=(k:Int):=⟨(bR true s n).toNat,by have:=hok.2.1;omega⟩
   rw[hk,Int.toNat_natCast]at hT hlen
   have hmE:n≤holE true s n:=Nat.le_trans gU fP
   have hpc:=wC (s:=s) (m:=n) (f:=holE true s n) (k:=k) hmE (by omega) (t:=q.1)
   have hq:q=(q.1,holE true s n+k,List.range' (holE true s n) k):=by rw[←hT]
   rw[←hq]at hpc
   have hx:=tX ((s.drop n).take (holE true s n-n))
   have hpp:a.drop p=ink ((s.drop n).take (holE true s n-n))++((s.drop (holE true s n)).take k++y):=by rw[hp,hpc,List.append_assoc]
   have hE:=FP (k3 hok) hx hpp rfl
   have hkl:((s.drop (holE true s n)).take k).length=k:=by rw[List.length_take,List.length_drop];omega
   have hda:a.drop (holE true a p)=(s.drop (holE true s n)).take k++y:=by
    rw[hE,←List.drop_drop,hpp]
    exact yC
   have hta:(a.drop (holE true a p)).take k=(s.drop (holE true s n)).take k:=by
    rw[hda,List.take_left' hkl]
   have hla: ¬a.length<holE true a p+k:=by
    have:=congrArg List.length hda
    rw[List.length_drop,List.length_append,hkl]at this
    have hk1:=hok.2.1
    omega
   have hlen2:p+(br s n q).length=holE true a p+k:=by rw[hpc,List.length_append,hkl,hE];omega
   refine⟨List.range' (holE true a p) k,?_,?_,?_,⟨r,hr⟩⟩
   ·unfold jw
    rw[←k2,hk,Int.toNat_natCast,if_neg hla,hta,hlen2]
    congr 2
    rw[←hT]
   ·rw[hpc,eK,qb _ _ hx,←hE,iJ]
    intro j j1 j2
    rw[hkl]at j2
    rw[List.mem_range'_1]
    omega
   ·intro j hj
    rw[List.mem_range'_1]at hj
    rw[hlen2]
    omega
 ·rw[if_neg hh]at hT
  have hh':(fI true out&&aw c&&decide (co true a p))=(fI true out&&aw c&&decide (co true s n)):=by
   congr 1
   by_cases h:co true s n
   ·rw[decide_eq_true h,decide_eq_true (k1.1 h)]
   ·rw[decide_eq_false h,decide_eq_false (fun e=>h (k1.2 e))]
  rw[hh',if_neg hh]
  by_cases hq:noQ c
  ·have hc0:c≠0:=hs c (List.mem_of_getElem? hg)
   have hR:=wH (Nm (n:=n) (p:=p) hs ha) (L7 hsame) hg hga hc0 h32 hq
   have hkp:=jX hq hT
   rw[hT]at hR
   cases hA:bg true a p c with
   |error x=>rw[hA]at hR;exact hR.elim
   |ok w=>
    rw[hA]at hR
    obtain⟨r1,r2⟩:=hR
    simp only at r1 r2
    have hwk:=jX hq hA
    have hpn: ∀d∈br s n q,d≠32:=by
     unfold br
     rw[hkp,gp _ n 0]
     exact tX _
    have hlen:(ink ((s.drop n).take (q.2.1-n))).length=(br s n q).length:=by
     unfold br ink
     rw[hkp,gp _ n 0]
    have hE:=FP r2 hpn hp hlen
    refine⟨[],?_,qb _ _ hpn,fun j hj=>absurd hj (by simp),⟨r,hr⟩⟩
    obtain⟨w1,w2,w3⟩:=w
    simp only at r1 hE hwk
    rw[r1,hE,hwk]
  ·have hc:c=39∨c=34:=by
    refine Classical.byContradiction fun e=>hq ⟨fun h=>e (Or.inl h),fun h=>e (Or.inr h)⟩
   have hTq: ∀(f:List UInt8) (m:Nat),bg true f m c=cr f m:=by
    intro f m
    unfold bg
    rcases hc with rfl|rfl
    ·rw[if_neg (by decide),if_neg (by simp[show aw 39=false from rfl]),if_neg (by decide),if_pos (Or.inl rfl)]
    ·rw[if_neg (by decide),if_neg (by simp[show aw 34=false from rfl]),if_neg (by decide),if_pos (Or.inr rfl)]
   rw[hTq]at hT ⊢
   unfold cr at hT ⊢
   unfold dV at hT ⊢
   rw[hgd]at hT
   rw[hgad]
   cases hQ:bP c (s.drop (n+1))with
   |none=>rw[hQ]at hT;cases hT
   |some u=>
    rw[hQ]at hT
    simp only at hT
    by_cases h60:60<u.1.length
    ·rw[if_pos h60]at hT;cases hT
    ·rw[if_neg h60]at hT
     injection hT with hT
     have hq1:q.1=⟨1,6,eF u.1⟩:=by rw[←hT]
     have hq2:q.2.1=n+1+u.2:=by rw[←hT]
     have hq3:q.2.2=List.range' n (n+1+u.2-n):=by rw[←hT]
     have hpc:br s n q=c::(s.drop (n+1)).take u.2:=by
      unfold br
      rw[iJ,hd1,hq2]
      ·congr 2;omega
      ·intro j j1 j2
       rw[List.length_take,List.length_drop]at j2
       rw[hq3,List.mem_range'_1]
       omega
     have hul:=ku _ _ (Nat.le_refl _) u.1 u.2 hQ
     rw[List.length_drop]at hul
     have hda:a.drop (p+1)=(s.drop (n+1)).take u.2++y:=by
      rw[←List.drop_drop,hp,hpc]
      rfl
     have hyq: ∀d r,y=d::r→d≠c:=by
      intro d r h
      have:=hy ⟨by rw[hq1],by rw[hq1]⟩ d r h
      rcases hc with rfl|rfl
      ·exact this.1
      ·exact this.2
     have hQa:=HS _ _ (Nat.le_refl _) u.1 u.2 hQ y hyq
     rw[hda,hQa]
     simp only
     rw[if_neg h60]
     have hpl:(br s n q).length=1+u.2:=by rw[hpc];simp;omega
     refine⟨List.range' p (p+1+u.2-p),?_,?_,?_,⟨r,hr⟩⟩
     ·rw[hq1,hpl,Nat.add_assoc]
     ·refine iJ _ _ fun j j1 j2=> ?_
      rw[hpl]at j2
      rw[List.mem_range'_1]
      omega
     ·intro j hj
      rw[List.mem_range'_1]at hj
      rw[hpl]
      omega
def re:List Tok→Prop
 |t::u::l=> ¬(jx t∧jx u)∧re (u::l)
 |_=>True
theorem JK {out:List Tok}{q:Tok×Nat×List Nat}{c:UInt8}(hg:s[n]? =some c)(hc: ¬noQ c)(hT:bx true s out n= .ok q):jx q.1:=by
 have hc':c=39∨c=34:=Classical.byContradiction fun e=>hc ⟨fun h=>e (Or.inl h),fun h=>e (Or.inr h)⟩
 have hgd:(s[n]?).getD 0=c:=by rw[hg];rfl
 unfold bx at hT
 rw[hgd]at hT
 have hdg:aw c=false:=by rcases hc' with rfl|rfl<;>rfl
 rw[if_neg (by rw[hdg];simp)]at hT
 have hTq:bg true s n c=cr s n:=by
  unfold bg
  rcases hc' with rfl|rfl
  ·rw[if_neg (by decide),if_neg (by simp[show aw 39=false from rfl]),if_neg (by decide),if_pos (Or.inl rfl)]
  ·rw[if_neg (by decide),if_neg (by simp[show aw 34=false from rfl]),if_neg (by decide),if_pos (Or.inr rfl)]
 rw[hTq]at hT
 unfold cr dV at hT
 split at hT
 ·rename_i w hw
  split at hw
  ·cases hw
  ·split at hw
   ·cases hw
   ·injection hw with hw
    injection hT with hT
    rw[←hT,←hw]
    exact⟨rfl,rfl⟩
 ·cases hT
theorem zY {fx:Bool}: ∀(k n:Nat) (out:List Tok) (kept:List Nat),∃w,(bG fx s k n out kept).2.1=out++w:=by
 intro k
 induction k with
 |zero=>intro n out kept;exact⟨[],by simp[bG]⟩
 |succ k ih=>
  intro n out kept
  unfold bG
  split
  ·exact⟨[],by simp⟩
  ·split
   ·exact⟨[],by simp⟩
   ·rename_i q hq
    obtain⟨w,hw⟩:=ih q.2.1 (out++[q.1]) (kept++q.2.2)
    exact⟨q.1::w,by rw[hw];simp⟩
theorem Fj (hs: ∀b∈s,b≠0)(ha: ∀b∈a,b≠0): ∀(k n p k':Nat) (out l:List Tok) (K kept kept':List Nat),bG true s k n out kept=(none,out++l,kept++K)→s.length<n+k→n≤s.length→(∀j∈K,n≤j)→re l→
  a.drop p=bi K (s.drop n) n→a.length<p+k'→p≤a.length→ ∃K',bG true a k' p out kept'=(none,out++l,kept'++K')∧(∀j∈K',p≤j)∧bi K' (a.drop p) p=a.drop p∧(∀c r,a.drop p=c::r→ ¬noQ c→ ∃t l',l=t::l'∧jx t):=by
 intro k
 induction k with
 |zero=>intro n p k' out l K kept kept' h h1 h2;omega
 |succ k ih=>
  intro n p k' out l K kept kept' h h1 h2 hK hl hp hk' hpa
  have hb:=iF (s.drop n)
  rw[List.length_drop]at hb
  obtain⟨k'',rfl⟩: ∃k'',k'=k''+1:=⟨k'-1,by omega⟩
  rw [show bG true s (k + 1) n out kept = (if s.length ≤ n + aK (s.drop n) then (none, out, kept)
   else match bx true s out (n+aK (s.drop n))with
    | .error e=>(some (n+aK (s.drop n),e),out,kept)
    | .ok q=>bG true s k q.2.1 (out++[q.1]) (kept++q.2.2))from rfl]at h
  by_cases hlen:s.length≤n+aK (s.drop n)
  ·rw[if_pos hlen]at h
   injection h with _ h
   injection h with h3 h4
   have hl0:l=[]:=List.append_cancel_left (by rw[←h3,List.append_nil]:out++l=out++[])
   have hK0:K=[]:=List.append_cancel_left (by rw[←h4,List.append_nil]:kept++K=kept++[])
   subst hl0 hK0
   have hall:bi [] (s.drop n) n=[]:=by
    have ht:(s.drop n).take (aK (s.drop n))=s.drop n:=List.take_of_length_le (by rw[List.length_drop];omega)
    have:=gJ (s.drop n)
    rw[ht]at this
    exact fX _ _ this (fun j _ _ h=>by cases h)
   rw[hall]at hp
   refine⟨[],?_,fun j hj=>absurd hj (by simp),by rw[hp];rfl,fun c r h=>by rw[hp]at h;cases h⟩
   unfold bG
   rw[if_pos (by have:=congrArg List.length hp;rw[List.length_drop]at this;simp at this;omega)]
   simp
  ·rw[if_neg hlen]at h
   obtain⟨c,hg,h32⟩:=gK (s:=s) (n:=n) (by omega)
   obtain⟨m,hm⟩: ∃m,m=n+aK (s.drop n):=⟨_,rfl⟩
   rw[←hm]at hlen hg h
   have hf:=dL (fx:=true) (out:=out) hg h32
   cases hT:bx true s out m with
   |error x=>rw[hT]at h;cases h
   |ok q=>
    rw[hT]at h hf
    obtain⟨f1,f2,f3⟩:=hf
    simp only at h
    have hkr: ∀j∈q.2.2,m≤j∧j<q.2.1:=t8 hT
    obtain⟨_,_,hrest⟩:=qC (s:=s) k q.2.1 (out++[q.1]) (kept++q.2.2) [] f2 (by omega)
    rw[h]at hrest
    obtain⟨K1,e1,e2,_⟩:=hrest rfl
    simp only at e1
    have hKK:K=q.2.2++K1:=by rw[List.append_assoc]at e1;exact List.append_cancel_left e1
    have hpre: ∃l1,l=q.1::l1:=by
     have hx:=zY (s:=s) (fx:=true) k q.2.1 (out++[q.1]) (kept++q.2.2)
     obtain⟨w,hw⟩:=hx
     rw[h]at hw
     simp only[List.append_assoc]at hw
     have:=List.append_cancel_left hw
     exact⟨w,by rw[this];rfl⟩
    obtain⟨l1,hl1⟩:=hpre
    subst hl1
    rw[hKK]at h hp
    rw[show out++q.1::l1=(out++[q.1])++l1 from by simp,←List.append_assoc kept]at h
    have hp':a.drop p=br s m q++bi K1 (s.drop q.2.1) q.2.1:=by
     rw[hp]
     have d1:s.drop n=(s.drop n).take (m-n)++((s.drop m).take (q.2.1-m)++s.drop q.2.1):=by
      have h1:(s.drop n).drop (m-n)=s.drop m:=by rw[List.drop_drop];congr 1;omega
      have h2:(s.drop m).drop (q.2.1-m)=s.drop q.2.1:=by rw[List.drop_drop];congr 1;omega
      rw[←h2,List.take_append_drop,←h1,List.take_append_drop]
     have l1':((s.drop n).take (m-n)).length=m-n:=by rw[List.length_take,List.length_drop];omega
     have l2':((s.drop m).take (q.2.1-m)).length=q.2.1-m:=by rw[List.length_take,List.length_drop];omega
     conv=>lhs;rw[d1]
     rw[eK,eK,l1',l2',show n+(m-n)=m from by omega,show m+(q.2.1-m)=q.2.1 from by omega]
     have hz:bi (q.2.2++K1) ((s.drop n).take (m-n)) n=[]:=by
      have hmn:m-n=aK (s.drop n):=by omega
      refine fX _ _ (by rw[hmn];exact gJ _) fun j k1 k2 hj=> ?_
      rw[l1']at k2
      rcases List.mem_append.1 hj with hj|hj
      ·have:=hkr j hj;omega
      ·have:=(e2 j hj).1;omega
     rw[hz,List.nil_append]
     congr 1
     ·unfold br
      refine ee _ _ fun j k1 k2=> ?_
      rw[l2']at k2
      rw[List.mem_append]
      constructor
      ·rintro(h|h)
       ·exact h
       ·have:=(e2 j h).1;omega
      ·exact fun h=>Or.inl h
     ·refine ee _ _ fun j k1 k2=> ?_
      rw[List.mem_append]
      constructor
      ·rintro(h|h)
       ·have:=hkr j h;omega
       ·exact h
      ·exact fun h=>Or.inr h
    obtain⟨y,hy⟩: ∃y,y=bi K1 (s.drop q.2.1) q.2.1:=⟨_,rfl⟩
    rw[←hy]at hp'
    have hda:a.drop (p+(br s m q).length)=y:=by rw[←List.drop_drop,hp'];exact yC
    have hpl1:1≤(br s m q).length:=by
     have: ∃r,br s m q=c::r:=by
      have hd1:(s.drop m).take (q.2.1-m)=c::(s.drop (m+1)).take (q.2.1-m-1):=by
       have hmlt:=cM hg
       rw[List.drop_eq_getElem_cons hmlt,show q.2.1-m=(q.2.1-m-1)+1 from by omega,List.take_succ_cons]
       rw[List.getElem?_eq_getElem hmlt]at hg
       injection hg with hg
       rw[hg,Nat.add_sub_cancel]
      unfold br
      rw[hd1,bi,if_pos (Or.inl h32)]
      exact⟨_,rfl⟩
     obtain⟨r,hr⟩:=this
     rw[hr];simp
    have hplen:p+(br s m q).length≤a.length:=by
     have:=congrArg List.length hp'
     rw[List.length_drop,List.length_append]at this
     omega
    have hnt:re l1:=by
     cases l1 with
     |nil=>trivial
     |cons u l2=>exact hl.2
    obtain⟨K',i1,i2,i3,i4⟩:=ih q.2.1 (p+(br s m q).length) k'' (out++[q.1]) l1 K1 (kept++q.2.2) (kept'++[]) h (by omega) f2 (fun j hj=>(e2 j hj).1) hnt (by rw[hda,hy]) (by omega) hplen
    have hyq:jx q.1→ ∀d r,y=d::r→noQ d:=by
     intro hch d r hyd
     refine Classical.byContradiction fun hnq=> ?_
     obtain⟨t,l',h5,h6⟩:=i4 d r (by rw[hda,hyd]) hnq
     rw[h5]at hl
     exact hl.1 ⟨hch,h6⟩
    obtain⟨kp,t1,t2,t3,r,t4⟩:=Fm hs ha hg h32 hT hp' (by rw[hy,ot]) hyq
    have hb0:aK (a.drop p)=0:=by rw[hp',t4,List.cons_append,aK,if_neg h32]
    obtain⟨K'',j1,j2,j3,_⟩:=ih q.2.1 (p+(br s m q).length) k'' (out++[q.1]) l1 K1 (kept++q.2.2) (kept'++kp) h (by omega) f2 (fun j hj=>(e2 j hj).1) hnt (by rw[hda,hy]) (by omega) hplen
    refine⟨kp++K'',?_,?_,?_,?_⟩
    ·rw [show bG true a (k'' + 1) p out kept' = (if a.length ≤ p + aK (a.drop p) then (none, out, kept')
      else match bx true a out (p+aK (a.drop p))with
       | .error e=>(some (p+aK (a.drop p),e),out,kept')
       | .ok q=>bG true a k'' q.2.1 (out++[q.1]) (kept'++q.2.2))from rfl,hb0,Nat.add_zero,if_neg (by omega),t1]
     simp only
     rw[j1]
     simp
    ·intro j hj
     rcases List.mem_append.1 hj with hj|hj
     ·exact(t3 j hj).1
     ·have:=j2 j hj;omega
    ·rw[hp',eK]
     congr 1
     ·refine(ee _ _ fun j k1 k2=> ?_).trans t2
      rw[List.mem_append]
      constructor
      ·rintro(h|h)
       ·exact h
       ·have:=j2 j h;omega
      ·exact fun h=>Or.inl h
     ·rw[←hda]
      refine(ee _ _ fun j k1 k2=> ?_).trans j3
      rw[List.mem_append]
      constructor
      ·rintro(h|h)
       ·have:=t3 j h;omega
       ·exact h
      ·exact fun h=>Or.inr h
    ·intro d w hdw hnq
     rw[hp',t4,List.cons_append]at hdw
     injection hdw with hdw _
     subst hdw
     exact⟨q.1,l1,rfl,JK hg hnq hT⟩
end
end Go.Abs
set_option linter.unusedVariables false
set_option linter.unusedSimpArgs false
set_option maxRecDepth 100000
namespace Go.Abs
open Go Go.Proofs
theorem iL {l:List Tok}:(aB l).length=l.length:=by simp[aB]
section
variable {s:List UInt8}{μ:Mu}
theorem IR {fx:Bool}: ∀(k n:Nat) (out:List Tok) (kept:List Nat),kept.length≤n→n≤s.length→(bG fx s k n out kept).2.2.length≤s.length:=by
 intro k
 induction k with
 |zero=>intro n out kept h1 h2;show kept.length≤_;omega
 |succ k ih=>
  intro n out kept h1 h2
  unfold bG
  split
  ·show kept.length≤_;omega
  ·rename_i hlt
   obtain⟨c,hg,h32⟩:=gK (s:=s) (n:=n) (by omega)
   have hf:=dL (fx:=fx) (out:=out) hg h32
   split
   ·show kept.length≤_;omega
   ·rename_i q hq
    rw[hq]at hf
    obtain⟨f1,f2,f3⟩:=hf
    exact ih _ _ _ (by simp;omega) f2
theorem HX:(a6 true s).kept.length≤s.length:=by
 unfold a6
 split
 ·have:=IR (s:=s) (fx:=true) (s.length+1) 0 [] [] (by simp) (by omega)
  simp only
  split
  ·split<;>exact this
  ·exact this
 ·simp
def sqz (s:List UInt8):List UInt8:=if(a6 true s).e=0 then bi (a6 true s).kept s 0 else []
theorem Hh (hs:s.length≤200000):(ev E).call 31 [LV.str s] μ=some (.ret (.ltup [LV.str (sqz s),LV.int .i64 (a6 true s).e]) μ):=NE hs (by have:=HX (s:=s);omega)
theorem Df (h:bW s=0): ∀b∈s,b≠0:=by
 unfold bW at h
 split at h
 ·cases h
 ·split at h
  ·rename_i h2
   intro b hb e
   have:=tk.1 h2 b hb
   rw[e]at this
   exact absurd this.1 (by decide)
  ·cases h
theorem NF (hs:s.length≤200000):(ev E).call 32 [LV.str s] μ=some (.ret (.ltup [if bW s=0 then LV.cv (CV.sl (aB (bB true s)))else zB,LV.int .i64 ((a6 true s).n:Int),LV.int .i64 (a6 true s).e,LV.str (sqz s)]) μ):=by
 refine aN ?_
 rw[OW,NI hs]
 simp only[ad,ao,aa,ak,am,ah,ae,aj,aA,cond_true,cond_false,Bool.not_true,Bool.not_false,au,ar,aq]
 by_cases ht:bW s=0
 ·rw[decide_eq_true ht,Bool.not_true,cond_false,if_pos ht]
  have hz:=Df ht
  have hl:=MN (μ:=μ) hs hz (s.length+1) 0 [] [] (by omega) (by omega) (by simp) (by simp)
  rw[show aB []=[]from rfl,show ((0:Nat):Int)=0 from rfl]at hl
  obtain⟨a1,a2,a3⟩:=qC (s:=s) (s.length+1) 0 [] [] [] (by omega) (by omega)
  have herr:=qD (fx:=true) (s:=s) (s.length+1) 0 [] []
  obtain⟨x,o,kp,hr⟩: ∃x o kp,bG true s (s.length+1) 0 [] []=(x,o,kp):=⟨_,_,_,rfl⟩
  obtain⟨x',o',q',hr'⟩: ∃x o q,kD s (s.length+1) 0 [] []=(x,o,q):=⟨_,_,_,rfl⟩
  rw[hr]at a1 a2 a3 herr
  rw[hr']at a1 a2 a3 hl
  simp only at a1 a2 a3 herr
  subst a1 a2
  have hsc:a6 true s=(if(bU x').2=0 then(if 300<o'.length then⟨o',kp,0,8⟩else⟨o',kp,o'.length,0⟩)else⟨o',kp,(bU x').1,(bU x').2⟩):=by
   unfold a6
   rw[if_pos ht,hr]
  cases x' with
  |some w=>
   have hw:=herr w.1 w.2 rfl
   rw[if_neg (show ¬(bU (some w)).2=0 from hw)]at hsc
   have he:(a6 true s).e=w.2:=by rw[hsc];rfl
   have hT:bB true s=[]:=by unfold bB;rw[he,if_neg hw]
   have hS:sqz s=[]:=by unfold sqz;rw[he,if_neg hw]
   have hn:(a6 true s).n=w.1:=by rw[hsc];rfl
   have hG:wZ (ev E) s μ=some (iq [] (w.1:Int) w.2 [] μ):=by
    refine aU ?_
    rw[vt,hl,aa]
    exact EF _ _ _ _ _ _
   rw[hG,aa,oE,hT,hS,hn,he]
   rfl
  |none=>
   obtain⟨K,b1,b2,b3⟩:=a3 rfl
   rw[List.nil_append]at b1
   rw[List.drop_zero,List.nil_append]at b3
   subst b1 b3
   rw[if_pos (show (bU none).2=0 from rfl)]at hsc
   by_cases h3:300<o'.length
   ·rw[if_pos h3]at hsc
    have he:(a6 true s).e=8:=by rw[hsc]
    have hT:bB true s=[]:=by unfold bB;rw[he,if_neg (by decide)]
    have hS:sqz s=[]:=by unfold sqz;rw[he,if_neg (by decide)]
    have hn:(a6 true s).n=0:=by rw[hsc]
    have hG:wZ (ev E) s μ=some (iq [] 0 8 [] μ):=by
     refine aU ?_
     rw[vt,hl,aa]
     simp only[II]
     rw[um,iL,decide_eq_true (by omega:(300:Int)<(o'.length:Int))]
     rfl
    rw[hG,aa,oE,hT,hS,hn,he]
    rfl
   ·rw[if_neg h3]at hsc
    have he:(a6 true s).e=0:=by rw[hsc]
    have hT:bB true s=o':=by unfold bB;rw[he,if_pos rfl,hsc]
    have hS:sqz s=bi kp s 0:=by unfold sqz;rw[he,if_pos rfl,hsc]
    have hn:(a6 true s).n=o'.length:=by rw[hsc]
    have hG:wZ (ev E) s μ=some (iq (aB o') (o'.length:Int) 0 (bi kp s 0) μ):=by
     refine aU ?_
     rw[vt,hl,aa]
     simp only[II]
     have hG38:FC (ev E) (aB o') (bi kp s 0) μ=some (pC (aB o') (o'.length:Int) 0 (bi kp s 0) μ):=by
      refine aU ?_
      rw[Jl,iL]
     rw[um,iL,decide_eq_false (by omega: ¬(300:Int)<(o'.length:Int)),cond_false,hG38,aa,Bf]
    rw[hG,aa,oE,hT,hS,hn,he]
 ·rw[decide_eq_false ht,if_neg ht]
  have hsc:a6 true s=⟨[],[],0,bW s⟩:=by unfold a6;rw[if_neg ht]
  have hS:sqz s=[]:=by unfold sqz;rw[hsc];exact if_neg ht
  rw[hS,hsc]
  rfl
theorem zQ (h:(a6 true s).e=0):bW s=0∧(bB true s).length≤300∧bG true s (s.length+1) 0 [] []=(none,bB true s,(a6 true s).kept):=by
 obtain⟨ht,_,_⟩:=vH h
 have hT:bB true s=(a6 true s).toks:=by unfold bB;rw[if_pos h]
 rw[hT]
 unfold a6 at h ⊢
 rw[if_pos ht]at h ⊢
 simp only at h ⊢
 obtain⟨x,o,kp,hr⟩: ∃x o kp,bG true s (s.length+1) 0 [] []=(x,o,kp):=⟨_,_,_,rfl⟩
 rw[hr]at h ⊢
 simp only at h ⊢
 cases x with
 |none=>
  rw[if_pos (show (bU none).2=0 from rfl)]at h ⊢
  by_cases h3:300<o.length
  ·rw[if_pos h3]at h;exact absurd h (by simp)
  ·rw[if_neg h3]
   exact⟨ht,by show o.length≤300;omega,rfl⟩
 |some w=>
  have:=qD (fx:=true) (s:=s) (s.length+1) 0 [] [] w.1 w.2 (by rw[hr])
  have e:(bU (some w)).2=w.2:=rfl
  rw[e,if_neg this]at h
  exact absurd h this
theorem Ia (h:(a6 true s).e=0)(hl:re (bB true s)):(a6 true (sqz s)).e=0∧bB true (sqz s)=bB true s∧sqz (sqz s)=sqz s:=by
 obtain⟨ht,h3,hsp⟩:=zQ h
 have hz:=Df ht
 obtain⟨a,ha⟩: ∃a,a=bi (a6 true s).kept s 0:=⟨_,rfl⟩
 have hsq:sqz s=a:=by unfold sqz;rw[if_pos h,ha]
 have hsub: ∀(K:List Nat) (l:List UInt8) (i:Nat),(∀b∈bi K l i,b∈l)∧(bi K l i).length≤l.length:=by
  intro K l
  induction l with
  |nil=>intro i;exact⟨fun b hb=>hb,Nat.le_refl _⟩
  |cons c r ih=>
   intro i
   obtain⟨h1,h2⟩:=ih (i+1)
   rw[bi]
   split
   ·refine⟨fun b hb=> ?_,by simp;exact h2⟩
    rcases List.mem_cons.1 hb with rfl|hb
    ·simp
    ·exact List.mem_cons_of_mem _ (h1 b hb)
   ·exact⟨fun b hb=>List.mem_cons_of_mem _ (h1 b hb),by simp;omega⟩
 obtain⟨m1,m2⟩:=hsub (a6 true s).kept s 0
 rw[←ha]at m1 m2
 have hta:bW a=0:=by
  have h2:=ht
  unfold bW at h2 ⊢
  split at h2
  ·cases h2
  ·rename_i h1320
   split at h2
   ·rename_i htx
    rw[if_neg (by omega),if_pos (tk.2 fun b hb=>tk.1 htx b (m1 b hb))]
   ·cases h2
 have hza: ∀b∈a,b≠0:=fun b hb=>hz b (m1 b hb)
 obtain⟨K',i1,i2,i3,_⟩:=Fj (s:=s) (a:=a) hz hza (s.length+1) 0 0 (a.length+1) [] (bB true s) (a6 true s).kept [] [] (by rw[hsp];simp) (by omega) (by omega) (fun j _=>by omega) hl (by rw[List.drop_zero,List.drop_zero];exact ha) (by omega) (by omega)
 simp only[List.nil_append,List.drop_zero]at i1 i3
 have hsa:a6 true a=⟨bB true s,K',(bB true s).length,0⟩:=by
  unfold a6
  rw[if_pos hta,i1]
  simp only
  rw[if_pos (show (bU none).2=0 from rfl),if_neg (by omega)]
 rw[hsq]
 refine⟨by rw[hsa],?_,?_⟩
 ·unfold bB
  rw[hsa,if_pos rfl]
  unfold bB
  rfl
 ·unfold sqz
  rw[hsa,if_pos rfl]
  exact i3
instance (t:Tok):Decidable (jx t):=by unfold jx;infer_instance
theorem NU {l:List Tok}{o:List CV}{x:List UInt8}(hl:l.length≤100000): ∀(k i:Nat),i+k=l.length→1≤i→(kM (ev E) o x (aB l) (i:Int) μ=some (nV true μ))∨(kM (ev E) o x (aB l) (i:Int) μ=some (ls o x μ)∧re (l.drop (i-1))):=by
 intro k
 induction k with
 |zero=>
  intro i hi h1
  refine Or.inr ⟨aV ?_,?_⟩
  ·rw[vx,iL,cS (by omega),cond_false]
  ·have:(l.drop (i-1)).length≤1:=by rw[List.length_drop];omega
   match l.drop (i-1),this with
   |[],_=>trivial
   |[_],_=>trivial
 |succ k ih=>
  intro i hi h1
  have hlt:i<l.length:=by omega
  have hlt1:i-1<l.length:=by omega
  have hd:l.drop (i-1)=l[i-1]::l.drop i:=by
   rw[List.drop_eq_getElem_cons hlt1];congr 2;omega
  have hd2:l.drop i=l[i]::l.drop (i+1):=List.drop_eq_getElem_cons hlt
  have hstep:(yw o x (aB l) (i:Int)).rK (ev E) μ=cond (decide (jx l[i-1]∧jx l[i])) (some (nV true μ)) (kM (ev E) o x (aB l) ((i+1:Nat):Int) μ):=by
   have e1:cE (aB l) ((i-1:Nat):Int)=some (l[i-1]).cv:=by rw[c6];unfold aB;rw[List.getElem?_map,List.getElem?_eq_getElem hlt1];rfl
   have e2:cE (aB l) (i:Int)=some (l[i]).cv:=by rw[c6];unfold aB;rw[List.getElem?_map,List.getElem?_eq_getElem hlt];rfl
   rw[vx,iL,cN hlt,cond_true,uM (by omega) h1,bQ (by omega),e1,aa,cx,e2,aa,cx,aa,cx,aa,cx]
   unfold jx
   by_cases a1:(l[i-1]).type=6<;>by_cases a2:(l[i]).type=6<;>by_cases a3:(l[i-1]).kind=1<;>by_cases a4:(l[i]).kind=1<;>simp[a1,a2,a3,a4]
  by_cases hc:jx l[i-1]∧jx l[i]
  ·exact Or.inl (aV (by rw[hstep,decide_eq_true hc,cond_true]))
  ·rcases ih (i+1) (by omega) (by omega)with h|⟨h,h2⟩
   ·exact Or.inl (aV (by rw[hstep,decide_eq_false hc,cond_false,h]))
   ·refine Or.inr ⟨aV (by rw[hstep,decide_eq_false hc,cond_false,h]),?_⟩
    rw[Nat.add_sub_cancel]at h2
    rw[hd,hd2]
    rw[hd2]at h2
    exact⟨hc,h2⟩
theorem HW:(bB true s).length≤s.length:=JP
theorem OQ:(ev E).call 8 [LV.str s] []=some (.ret (LV.bool true) []):=by
 refine aN ?_
 rw[nf8,NC]
 simp only[ad,ao,aa,ak,am,ah,ae,aj,aA,cond_true,cond_false,Bool.not_true,Bool.not_false,au,ar,aq]
 have hG:L4 (ev E) s []=some (qW true []):=by
  refine aU ?_
  rw[M5,ND]
  simp only[ad,ao,aa,ak,am,ah,ae,aj,aA,cond_true,cond_false,Bool.not_true,Bool.not_false,au,ar,aq]
  cases hb:tM s with
  |false=>rfl
  |true=>
   have hs:=F8 hb
   have hl:=HW (s:=s)
   rw[Bool.not_true,cond_false]
   have hG5:L5 (ev E) s []=some (iC true []):=by
    refine aU ?_
    have hsl:cg (if bW s=0 then LV.cv (CV.sl (aB (bB true s)))else zB)=some (aB (bB true s)):=by
     by_cases ht:bW s=0
     ·rw[if_pos ht];rfl
     ·rw[if_neg ht]
      have hsc:a6 true s=⟨[],[],0,bW s⟩:=by unfold a6;rw[if_neg ht]
      have:bB true s=[]:=by unfold bB;rw[hsc];exact if_neg ht
      rw[this];rfl
    rw[M6,Kq (by omega)]
    simp only[ad,ao,aa,ak,am,ah,ae,aj,aA,cond_true,cond_false,Bool.not_true,Bool.not_false,au,ar,aq]
    rw[Hh (by omega)]
    simp only[ad,ao,aa,ak,am,ah,ae,aj,aA,cond_true,cond_false,Bool.not_true,Bool.not_false,au,ar,aq]
    rw[NF (by omega)]
    simp only[ad,ao,aa,ak,am,ah,ae,aj,aA,cond_true,cond_false,Bool.not_true,Bool.not_false,au,ar,aq,decide_true]
    rw[hsl,aa,Ko (by omega)]
    simp only[ad,ao,aa,ak,am,ah,ae,aj,aA,cond_true,cond_false,Bool.not_true,Bool.not_false,au,ar,aq,decide_true]
    have hG10:Ke (ev E) (aB (bB true s)) (sqz s) (aB (bB true s)) (a6 true s).e []=some (nQ true []):=by
     refine aU ?_
     rw[LK]
     by_cases he:(a6 true s).e=0
     ·rw[decide_eq_true he,Bool.not_true,cond_false]
      have hG12:Kf (ev E) (aB (bB true s)) (sqz s) (aB (bB true s)) []=some (gj true []):=by
       refine aU ?_
       rw[LL]
       have hsqlen:(sqz s).length≤s.length:=by
        unfold sqz
        rw[if_pos he]
        have: ∀(K:List Nat) (l:List UInt8) (i:Nat),(bi K l i).length≤l.length:=by
         intro K l
         induction l with
         |nil=>intro i;exact Nat.le_refl _
         |cons c r ih=>
          intro i
          have:=ih (i+1)
          rw[bi]
          split<;>simp<;>omega
        exact this _ _ _
       have hfin:re (bB true s)→kS (ev E) H8 [.block 0,.seq (cA 8 [1,1,1,1,1,1,1,1,1])] [(2,0)] (ls (aB (bB true s)) (sqz s) [])=some (gj true []):=by
        intro hnt
        obtain⟨z1,z2,z3⟩:=Ia he hnt
        rw[ER,Hh (by omega),z1,z3]
        simp only[ad,ao,aa,ak,am,ah,ae,aj,aA,cond_true,cond_false,Bool.not_true,Bool.not_false,au,ar,aq]
        rw[Kq (by omega),z1,z2]
        simp only[ad,ao,aa,ak,am,ah,ae,aj,aA,cond_true,cond_false,Bool.not_true,Bool.not_false,au,ar,aq,decide_true]
        rw[Ko (by omega)]
        simp only[ad,ao,aa,ak,am,ah,ae,aj,aA,cond_true,cond_false,Bool.not_true,Bool.not_false,au,ar,aq,decide_true]
       by_cases h0:(bB true s).length=0
       ·have hnil:bB true s=[]:=List.eq_nil_of_length_eq_zero h0
        have hlp:kM (ev E) (aB (bB true s)) (sqz s) (aB (bB true s)) 1 []=some (ls (aB (bB true s)) (sqz s) []):=by
         refine aV ?_
         rw[vx,iL,h0]
         rfl
        rw[hlp,aa]
        exact hfin (by rw[hnil];trivial)
       ·rcases NU (μ:=[]) (l:=bB true s) (o:=aB (bB true s)) (x:=sqz s) (by omega) ((bB true s).length-1) 1 (by omega) (Nat.le_refl 1)with h|⟨h,h2⟩
        ·rw[show ((1:Nat):Int)=1 from rfl]at h
         rw[h,aa]
         exact EQ _ _ _
        ·rw[show ((1:Nat):Int)=1 from rfl]at h
         rw[h,aa]
         exact hfin h2
      rw[hG12,aa,EB]
     ·rw[decide_eq_false he]
      rfl
    rw[hG10,aa,EA]
   rw[hG5,aa,HD]
 rw[hG,aa,HC]
end
end Go.Abs
set_option linter.unusedVariables false
set_option linter.unusedSimpArgs false
set_option maxRecDepth 100000
set_option maxHeartbeats 1000000
namespace Go.Abs
open Go Go.Proofs Go.RowKit
theorem sizeBuilder:(Tryz.prog.info? 103).map (·.size)=some 2:=by kernel_rfl
theorem liesBuilder:liesAt Tryz.prog Tryz.prog.depth 103 (2 / Tryz.prog.cellsOf 103) 0 103 1=true:=by kernel_rfl
theorem Gi (b:Nat)(w:World)(h0:w.cell? ⟨b,0,none⟩=some (.pointer (some ⟨b,0,none⟩))):
  Calls Tryz.prog 116 #[.pointer (some ⟨b,0,none⟩)] w fun e w'=>e= .returned (.tuple #[])∧w'=w:=by
 obtain⟨j,hj,_⟩:=Option.map_eq_some_iff.1 sizeBuilder
 go_enter Tryz.func116,Tryz.ntmps116
 go_wp2
 rw[Lib.run_neq_ptr_same w _ Tryz.underlying100 hj]
 go_wp2
 go_end0
 exact⟨rfl,rfl⟩
theorem DR (b:Nat)(w:World)(h0:w.cell? ⟨b,0,none⟩=some (.pointer none))(hsh:w.shape? b=some (103,2))(hfz:w.frozen? ⟨b,0,none⟩=false):
  Calls Tryz.prog 116 #[.pointer (some ⟨b,0,none⟩)] w fun e w'=>e= .returned (.tuple #[])∧w'=w.setCell ⟨b,0,none⟩ (.pointer (some ⟨b,0,none⟩)):=by
 obtain⟨j,hj,hjs⟩:=Option.map_eq_some_iff.1 sizeBuilder
 go_enter Tryz.func116,Tryz.ntmps116
 go_wp2
 rw[Lib.run_to_unsafe w ⟨b,0,none⟩ Tryz.underlying100 Tryz.underlying159 hj (by rw[hjs];decide) hsh (Nat.zero_lt_succ 1)]
 simp only[Result.andThen]
 rw[Oper.upon_value]
 go_wp2
 rw[run_callFunc_extern Tryz.func146 (by kernel_rfl) (by kernel_rfl) (by kernel_rfl) (e:=Extern.AbiNoEscape.same) (by kernel_rfl)]
 rw[Lib.run_noEscape]
 simp only[Result.andThen]
 rw[Oper.upon_value]
 go_wp2
 rw[Lib.run_from_unsafe w ⟨b,0,none⟩ Tryz.underlying159 Tryz.underlying100 hj hsh liesBuilder]
 simp only[Result.andThen]
 rw[Oper.upon_value]
 go_wp2
 go_end0
 exact⟨rfl,rfl⟩
theorem Ie {b:Nat}{w:World}{p:Option Addr}{v:Value}(h0:w.cell? ⟨b,0,none⟩=some v)(hfz:w.frozen? ⟨b,0,none⟩=false):(storeVar 100 ⟨b,0,none⟩ (.pointer p)).run Tryz.prog w= .ok () (w.setCell ⟨b,0,none⟩ (.pointer p)):=by
 simp[storeVar,Tryz.sizeOf100,storeCells,Value.cells,run_store_pointer,stored,h0,hfz,Addr.add]
section
variable {W0 w:World}{G:Gh}{L:Nat}{μ:Mu}
theorem Rel.ret {args:List LV}{cargs:Array Value}{v:LV}{cv:Value}(R:Rel G L (aM args) μ cargs w)(hv:LVR G w L 0 v cv)(hno: ∀b,¬aD v cv b):
  Rel G L (aM [v]) μ #[cv] w∧(∀b,ax G w (aM [v]) μ #[cv] b→ax G w (aM args) μ cargs b):=by
 have hob: ∀lev i,aC (μ++[(aM [v]).lam]) lev i=aC (μ++[(aM args).lam]) lev i:=fun _ _=>rfl
 have hown: ∀q b,av G w (aM [v]).fr #[cv] (μ++[(aM [v]).lam]) q b→av G w (aM args).fr cargs (μ++[(aM args).lam]) q b:=by
  intro q b h
  cases q with
  |fr t=>
   exfalso
   simp only[av,bY]at h
   cases t with
   |zero=>exact hno b h
   |succ t=>simp[aD]at h
  |ob lev i k=>exact h
 refine⟨⟨R.lev,fun t=> ?_,R.lam,R.mu,R.inj,fun q q' b h h'=>R.own q q' b (hown q b h) (hown q' b h'),fun q b lev i h h'=>R.apart q b lev i (hown q b h) h',R.nlt,R.nL,R.ngt⟩,fun b h=> ?_⟩
 ·rw[bY]
  cases t with
  |zero=>exact hv
  |succ t=>simp[LVR,VR]
 ·rcases h with⟨q,h⟩|h
  ·exact .inl ⟨q,hown q b h⟩
  ·exact .inr h
structure Bld (G:Gh) (L:Nat) (μ:Mu) (w:World) (lev i:Nat) (a b:LV) (cur:Array Value) (fz:Nat×Nat):Prop where
 lt:lev<L
 live:aZ μ lev i= .cells [a,b]
 heap:w.heap[G.β lev i]? =some (.cells cur 103 fz)
 size:cur.size=2
 unf:dC cur fz
 O:G.O (G.β lev i)=0
 va:LVR (G.below lev) w lev 0 a (cur.getD 0 undef)
 vb:LVR (G.below lev) w lev 0 b (cur.getD 1 undef)
theorem F7 {args:List LV}{cargs:Array Value}{lev i:Nat}{a b:LV}(R:Rel G L (aM args) μ cargs w)(ha:args[0]? =some (.cv (.tref lev i 103 2)))(hob:aZ μ lev i= .cells [a,b]):
  ∃cur fz,Bld G L μ w lev i a b cur fz∧i<G.n lev∧cargs.getD 0 undef= .pointer (some ⟨G.β lev i,0,none⟩):=by
 have h0:=R.fr 0
 rw[bY,ha]at h0
 simp only[Option.getD_some,LVR,VR]at h0
 obtain⟨h1,h2,cur,fz,h3,h4⟩:=h0
 have hlt:lev<L:=by
  rcases Nat.lt_trichotomy lev L with h|h|h
  ·exact h
  ·subst h
   have:=R.nL
   simp[aM]at this
   omega
  ·have:=R.ngt lev h
   omega
 have hm:=R.mu lev i hlt
 rw[hob]at hm
 simp only[ObR]at hm
 obtain⟨cur2,e2,fz2,k1,k2,k3,k4,k5⟩:=hm
 rw[h3]at k1
 obtain⟨rfl,rfl,rfl⟩:=(Obj.cells.injEq ..).mp (Option.some.inj k1)
 exact⟨cur,fz,⟨hlt,hob,h3,h4,k2,k3,k5 0 a rfl,k5 1 b rfl⟩,h1,h2⟩
theorem xY {cargs:Array Value}{v:Value}(hs:cargs.size=1)(hv:cargs.getD 0 undef=v):cargs= #[v]:=by
 apply Array.ext
 ·simpa using hs
 ·intro j h1 h2
  have:j=0:=by omega
  subst this
  rw[Array.getD_eq_getD_getElem?,Array.getElem?_eq_getElem h1]at hv
  simpa using hv
theorem HF {lev i:Nat}{o:Ob}{args:List LV}(hlt:lev<μ.length)(h:aZ μ lev i=o):aC (μ++[(aM args).lam]) lev i=o:=by
 rw[←h]
 exact bp hlt
theorem NB {b:Nat}{cur:Array Value}{e:TypeId}{fz:Nat×Nat}{k:Nat}(h:w.heap[b]? =some (.cells cur e fz))(hk:k<cur.size):w.cell? ⟨b,k,none⟩=some (cur.getD k undef):=by
 unfold World.cell?
 simp only[h]
 simp[Array.getD_eq_getD_getElem?,hk]
theorem Lg {b:Nat}{cur:Array Value}{e:TypeId}{fz:Nat×Nat}{k:Nat}(h:w.heap[b]? =some (.cells cur e fz))(hk:k<cur.size)(hu:dC cur fz):w.frozen? ⟨b,k,none⟩=false:=by
 have:=hu k hk
 unfold World.frozen?
 simp only[h]
 simp
 omega
theorem zD {args:List LV}{out:Out}(h:oG 103 args μ=some out):ck E.P W0 116 args μ out:=by
 unfold oG at h
 obtain⟨q,hq,h2⟩:=bn h
 clear h
 obtain⟨u,hu,h⟩:=bn h2
 clear h2
 have hargs:args=[q.1]:=by rw[dp hq,fG hu]
 rw[hargs]
 clear hargs hq hu
 obtain⟨x,y⟩:=q
 simp only at h ⊢
 split at h<;>try(cases h;done)
 rename_i lev i t n
 obtain⟨hg,h2⟩:=dc h
 clear h
 rw[Bool.and_eq_true]at hg
 have ht:=Nat.eq_of_beq_eq_true hg.1
 have hn:=Nat.eq_of_beq_eq_true hg.2
 subst ht hn
 refine⟨cL Tryz.func116 rfl (by kernel_rfl),fun G w cargs hs R hkn=> ?_⟩
 split at h2<;>try(cases h2;done)
 rename_i a b hob
 obtain⟨cur,fz,B,hin,hc0⟩:=F7 R rfl hob
 have hca:=xY (by simpa using hs) hc0
 have hlt:lev<μ.length:=B.lt
 have hcell:=NB (w:=w) B.heap (k:=0) (by rw[B.size];omega)
 split at h2<;>try(cases h2;done)
 ·
  injection h2 with h
  subst h
  have hva:=B.va
  simp only[LVR,VR]at hva
  rw[hva]at hcell
  have hfr:=Lg (w:=w) B.heap (k:=0) (by rw[B.size];omega) B.unf
  have hsh:w.shape? (G.β lev i)=some (103,2):=by
   unfold World.shape?
   simp only[B.heap,B.size]
  have hset:bN μ lev i (.cells [.cv (.ref lev i 0),b])++[(aM [LV.cv (CV.tref lev i 103 2)]).lam]=bN (μ++[(aM [LV.cv (CV.tref lev i 103 2)]).lam]) lev i (.cells [.cv (.ref lev i 0),b]):=(ko hlt).symm
  obtain⟨w',hrun,R2,E2⟩:=R.writeOb (P:=Tryz.prog) (t:=100) (s1:=aM [LV.cv (CV.tref lev i 103 2)]) (μ1:=bN μ lev i (.cells [.cv (.ref lev i 0),b])) (lev:=lev) (i:=i) (off:=0) (v:= .cv (.ref lev i 0)) (cv:= .pointer (some ⟨G.β lev i,0,none⟩)) (o':= .cells [.cv (.ref lev i 0),b])
   (Ext.refl G w fun b h=>h) (HF hlt hob) (by kernel_rfl)
   ⟨fun e=>absurd e (Nat.ne_of_lt hlt),fun _=>by simp only[LVR,VR,Gh.below];exact⟨by simpa using hin,trivial⟩⟩
   (fun b hb=>by simp[aD]at hb) rfl rfl rfl gv.1 hset
  have hw:w'=w.setCell ⟨G.β lev i,0,none⟩ (.pointer (some ⟨G.β lev i,0,none⟩)):=by
   have h1:=Ie (p:=some ⟨G.β lev i,0,none⟩) hcell hfr
   rw[hrun]at h1
   injection h1
  rw[hca]
  refine(DR (G.β lev i) w hcell hsh hfr).mono fun e w2 ⟨h1,h2⟩=> ?_
  subst h1
  rw[←hw]at h2
  subst h2
  obtain⟨R3,hT⟩:=R2.ret (v:= .ltup []) (cv:= .tuple #[]) ⟨#[],rfl,rfl⟩ (fun b h=>by simp[aD]at h)
  exact⟨G.O,R3,hca▸E2.weaken (fun _ h=>h) fun b hb=>hT b hb⟩
 ·
  rename_i l j
  obtain⟨hg2,h3⟩:=dc h2
  rw[Bool.and_eq_true]at hg2
  have hl:=Nat.eq_of_beq_eq_true hg2.1
  have hj:=Nat.eq_of_beq_eq_true hg2.2
  subst hl hj
  injection h3 with h
  subst h
  have hva:=B.va
  simp only[LVR,VR]at hva
  rw[hva.2]at hcell
  rw[hca]
  refine(Gi (G.β l j) w hcell).mono fun e w2 ⟨h1,h2⟩=> ?_
  subst h1 h2
  obtain⟨R3,hT⟩:=R.ret (v:= .ltup []) (cv:= .tuple #[]) ⟨#[],rfl,rfl⟩ (fun b h=>by simp[aD]at h)
  exact⟨G.O,R3,Ext.refl G _ (hca▸hT)⟩
end
theorem BN {b g cap:Nat}{l:List UInt8}{p:Value}{fzb:Nat×Nat}{cur:Array Value}{w:World}(hbk:w.heap[b]? =some (.cells #[p,.slice (some ⟨g,0,none⟩) l.length cap] 103 fzb))(h0:l≠[])(hg:w.heap[g]? =some (.cells cur 5 (0,0)))
  (hnc:l.length≤cap) (hcm:cap≤maxLen) (hsz:l.length≤cur.size) (hcells: ∀(j:Nat) x,l[j]? =some x→w.cell? ⟨g,j,none⟩=some (.int .u8 x.toNat)):
  Calls Tryz.prog 77 #[.pointer (some ⟨b,0,none⟩)] w fun e w'=>e= .returned (.string ⟨l.toArray⟩)∧w'=w.drew.freeze ⟨g,0,none⟩ l.length:=by
 have hl0:l.length≠0:=by simpa using h0
 have c1:w.drew.cell? ⟨b,1,none⟩=some (.slice (some ⟨g,0,none⟩) l.length cap):=by
  have:w.drew.heap[b]? =some (.cells #[p,.slice (some ⟨g,0,none⟩) l.length cap] 103 fzb):=hbk
  rw[Lib.cell_of_heap this];rfl
 have hSD:(Builtin.unsafeSliceData_ #[101] 137 #[.slice (some ⟨g,0,none⟩) l.length cap]).run Tryz.prog w.drew= .ok (.pointer (some ⟨g,0,none⟩)) w.drew:=
  Lib.run_unsafeSliceData_row _ _ _ _ _ _ (by omega)
 have hUS:(Builtin.unsafeString_ #[137,3] 9 #[.pointer (some ⟨g,0,none⟩),.int .i64 l.length]).run Tryz.prog w.drew= .ok (.string ⟨l.toArray⟩) (w.drew.freeze ⟨g,0,none⟩ l.length):=by
  refine Lib.run_unsafeString_row w.drew 137 3 9 5 Tryz.underlying137 Tryz.Builder_Extra_169.cellsByte g cur.size (by have hg':w.drew.heap[g]? =some (.cells cur 5 (0,0)):=hg;simp[World.shape?,hg']) l h0 (by omega) (by unfold maxLen at hcm;omega) ?_
  intro j x hx
  have:=hcells j x hx
  by_cases hj:j=0
  ·subst hj;simpa[Addr.add]using this
  ·simpa[Addr.add,hj]using this
 go_enter Tryz.func77,Tryz.ntmps77
 go_wp2
 go_region
 all_goals(go_wp2;go_ret;exact⟨rfl,rfl⟩)
theorem Fl {b:Nat}{p:Value}{fzb:Nat×Nat}{w:World}(hbk:w.heap[b]? =some (.cells #[p,.slice none 0 0] 103 fzb)):
  Calls Tryz.prog 77 #[.pointer (some ⟨b,0,none⟩)] w fun e w'=>e= .returned (.string ⟨#[]⟩)∧w'=w.drew:=by
 have hUS: ∀W q,(Builtin.unsafeString_ #[137,3] 9 #[.pointer q,.int .i64 0]).run Tryz.prog W= .ok (.string .empty) W:=fun W q=>Lib.run_unsafeString_none W _ _ _ q
 have c1:w.drew.cell? ⟨b,1,none⟩=some (.slice none 0 0):=by
  have:w.drew.heap[b]? =some (.cells #[p,.slice none 0 0] 103 fzb):=hbk
  rw[Lib.cell_of_heap this];rfl
 have hSD:(Builtin.unsafeSliceData_ #[101] 137 #[.slice none 0 0]).run Tryz.prog w.drew= .ok (.pointer none) w.drew:=rfl
 go_enter Tryz.func77,Tryz.ntmps77
 go_wp2
 go_region
 all_goals(go_wp2;go_ret;exact⟨rfl,rfl⟩)
theorem BO {b g:Nat}{p:Value}{fzb:Nat×Nat}{cur:Array Value}{e:TypeId}{w:World}(hbk:w.heap[b]? =some (.cells #[p,.slice (some ⟨g,0,none⟩) 0 0] 103 fzb))(hg:w.heap[g]? =some (.cells cur e (0,0))):
  Calls Tryz.prog 77 #[.pointer (some ⟨b,0,none⟩)] w fun e w'=>e= .returned (.string ⟨#[]⟩)∧w'=w.drew.alloc (.view ⟨g,0,none⟩ 5):=by
 have hUS: ∀W q,(Builtin.unsafeString_ #[137,3] 9 #[.pointer q,.int .i64 0]).run Tryz.prog W= .ok (.string .empty) W:=fun W q=>Lib.run_unsafeString_none W _ _ _ q
 have hlt:b<w.heap.size:=by
  rcases Nat.lt_or_ge b w.heap.size with h'|h'
  ·exact h'
  ·simp[Array.getElem?_eq_none h']at hbk
 have c1:w.drew.cell? ⟨b,1,none⟩=some (.slice (some ⟨g,0,none⟩) 0 0):=by
  have:w.drew.heap[b]? =some (.cells #[p,.slice (some ⟨g,0,none⟩) 0 0] 103 fzb):=hbk
  rw[Lib.cell_of_heap this];rfl
 have hSD:(Builtin.unsafeSliceData_ #[101] 137 #[.slice (some ⟨g,0,none⟩) 0 0]).run Tryz.prog w.drew= .ok (.pointer (some ⟨w.drew.heap.size,0,none⟩)) (w.drew.alloc (.view ⟨g,0,none⟩ 5)):=
  Lib.run_unsafeSliceData_zero w.drew _ _ 5 Tryz.underlying137 ⟨g,0,none⟩ 0 (e,cur.size) (by have hg':w.drew.heap[g]? =some (.cells cur e (0,0)):=hg;simp[World.shape?,hg'])
 have c2:(w.drew.alloc (.view ⟨g,0,none⟩ 5)).cell? ⟨b,1,none⟩=some (.slice (some ⟨g,0,none⟩) 0 0):=by
  have:(w.drew.alloc (.view ⟨g,0,none⟩ 5)).heap[b]? =_:=(Lib.alloc_old w.drew _ b hlt).trans hbk
  rw[Lib.cell_of_heap this];rfl
 have c3:(w.alloc (.view ⟨g,0,none⟩ 5)).drew.cell? ⟨b,1,none⟩=some (.slice (some ⟨g,0,none⟩) 0 0):=c2
 have c0:w.cell? ⟨b,1,none⟩=some (.slice (some ⟨g,0,none⟩) 0 0):=c1
 go_enter Tryz.func77,Tryz.ntmps77
 go_wp2
 go_region
 all_goals(go_wp2;go_ret;exact⟨rfl,rfl⟩)
section
variable {W0 w:World}{G:Gh}{L:Nat}{μ:Mu}
theorem qy {args:List LV}{cargs:Array Value}{μ':Mu}{G':Gh}{w':World}{T:Nat→Prop}{v:LV}{cv:Value}(R1:Rel G L (aM args) μ' cargs w)(hT1: ∀b,ax G w (aM args) μ' cargs b→T b)(hle:Le G w G' w')
  (hfr: ∀b,ax G w (aM args) μ' cargs b→w'.heap[b]? =w.heap[b]? ∧G'.O b=G.O b) (hG:G'=G.withO G'.O) (ho:w'.os=w.os) (ht:w'.tape=w.tape) (hu:w'.output=w.output) (hs:w.heap.size≤w'.heap.size)
  (hkeep: ∀b,b<w.heap.size→ ¬T b→w'.heap[b]? =w.heap[b]? ∧G'.O b=G.O b) (hv:LVR G' w' L 0 v cv) (hno: ∀b,¬aD v cv b):ey L T G w (.ret v μ') (.returned cv) w':=by
 have hβ: ∀lev i,G'.β lev i=G.β lev i∧G'.sz lev i=G.sz lev i:=by intro lev i;rw[hG];exact⟨rfl,rfl⟩
 have hn:G'.n=G.n:=by rw[hG];rfl
 obtain⟨R2,hO2⟩:=R1.frame hle hfr (fun lev i _=>hβ lev i) hn
 obtain⟨R3,hT3⟩:=R2.ret hv hno
 have htouch: ∀b,ax G' w' (aM [v]) μ' #[cv] b→T b:=by
  intro b hb
  rcases hT3 b hb with⟨q,h⟩|⟨lev,i,h,e⟩
  ·exact hT1 b (.inl ⟨q,hO2 q b h⟩)
  ·exact hT1 b (.inr ⟨lev,i,h,by rw[←(hβ lev i).1];exact e⟩)
 refine⟨G'.O,?_,?_⟩
 ·rw[←hG];exact R3
 ·rw[←hG]
  exact⟨hle,ho,ht,hu,hs,hkeep,fun b hb=> .inl (htouch b hb),fun l _=>⟨fun i=>hβ l i,by rw[hn]⟩⟩
theorem Az {g n:Nat}{cur:Array Value}{e:TypeId}{fz:Nat×Nat}(hg:w.heap[g]? =some (.cells cur e fz)):
  (∀b,b≠g→(w.drew.freeze ⟨g,0,none⟩ n).heap[b]? =w.heap[b]?)∧(∃fz',(w.drew.freeze ⟨g,0,none⟩ n).heap[g]? =some (.cells cur e fz'))∧(w.drew.freeze ⟨g,0,none⟩ n).os=w.os∧(w.drew.freeze ⟨g,0,none⟩ n).tape=w.tape∧(w.drew.freeze ⟨g,0,none⟩ n).output=w.output∧(w.drew.freeze ⟨g,0,none⟩ n).heap.size=w.heap.size:=by
 have hg':w.drew.heap[g]? =some (.cells cur e fz):=hg
 unfold World.freeze
 split
 ·exact⟨fun b _=>rfl,⟨fz,hg'⟩,rfl,rfl,rfl,rfl⟩
 ·refine⟨fun b hb=> ?_,?_,rfl,rfl,rfl,by simp⟩
  ·simp only[Array.getElem?_modify]
   rw[if_neg (fun e=>hb e.symm)]
   rfl
  ·simp only[Array.getElem?_modify,if_true,hg',Option.map_some]
   exact⟨_,rfl⟩
def lu (l:List UInt8):List CV:=l.map fun(b:UInt8)=>CV.v (.int .u8 (b.toNat:Int))
theorem F9 {l:List UInt8}:(lu l).length=l.length:=by simp[lu]
theorem oN: ∀{xs:List CV} {s:List UInt8},bb xs=some s→xs=lu s
 |[],s,h=>by injection h with h;subst h;rfl
 |x::r,s,h=>by
  unfold bb at h
  split at h
  ·rename_i heq;cases heq
  ·rename_i n r' heq
   injection heq with e1 e2
   subst e1 e2
   split at h
   ·rename_i hd
    obtain⟨l,hl,h2⟩:=bn h
    injection h2 with h2
    subst h2
    have ih:=oN hl
    rw[ih]
    simp only[Bool.and_eq_true,decide_eq_true_eq]at hd
    have hn:((UInt8.ofNat n.toNat).toNat:Int)=n:=by
     rw[UInt8.toNat_ofNat_of_lt' (by show n.toNat<256;omega)]
     omega
    show _=CV.v (.int .u8 ((UInt8.ofNat n.toNat).toNat:Int))::lu l
    rw[hn]
   ·cases h
  ·cases h
theorem HG {args:List LV}{out:Out}(h:vC 103 args μ=some out):ck E.P W0 77 args μ out:=by
 unfold vC at h
 obtain⟨q,hq,h2⟩:=bn h
 clear h
 obtain⟨u,hu,h⟩:=bn h2
 clear h2
 have hargs:args=[q.1]:=by rw[dp hq,fG hu]
 rw[hargs]
 clear hargs hq hu
 obtain⟨x,y⟩:=q
 simp only at h ⊢
 split at h<;>try(cases h;done)
 rename_i lev i t n
 obtain⟨hg,h2⟩:=dc h
 clear h
 rw[Bool.and_eq_true]at hg
 have ht:=Nat.eq_of_beq_eq_true hg.1
 have hn:=Nat.eq_of_beq_eq_true hg.2
 subst ht hn
 refine⟨cL Tryz.func77 rfl (by kernel_rfl),fun G w cargs hs R hkn=> ?_⟩
 split at h2<;>try(cases h2;done)
 rename_i a b hob
 obtain⟨xs,hxs,h3⟩:=bn h2
 obtain⟨s,hbs,h4⟩:=bn h3
 injection h4 with h4
 subst h4
 obtain⟨cur,fz,B,hin,hc0⟩:=F7 R rfl hob
 have hca:=xY (by simpa using hs) hc0
 have hlt:lev<μ.length:=B.lt
 have hot:=HF (args:=[LV.cv (CV.tref lev i 103 2)]) hlt hob
 have hl:aJ (aC (μ++[(aM [LV.cv (CV.tref lev i 103 2)]).lam]) lev i):=by rw[hot];trivial
 obtain⟨R1,_,hT,hO1,hO2,hlv⟩:=R.setOb (s1:=aM [LV.cv (CV.tref lev i 103 2)]) (μ1:=bN μ lev i .dead) (o':= .dead) (cur':=cur) hl B.heap rfl rfl rfl rfl gv.1 (ko hlt).symm
  (fun G' w' _ _ _=>⟨fun _=>trivial,fun _=>trivial⟩) (fun cs' k b h=>by cases h)
 rw[setRow_self w _ cur 103 fz B.heap]at R1 hT hO1 hO2
 have hT1: ∀b,ax G w (aM [LV.cv (CV.tref lev i 103 2)]) (bN μ lev i .dead) cargs b→ax G w (aM [LV.cv (CV.tref lev i 103 2)]) μ cargs b:=by
  intro b hb
  rcases hT b hb with h|⟨cs',k,h,_⟩
  ·exact h
  ·cases h
 obtain⟨hown,howns⟩:=gN hxs B.vb
 have hp1: ∃p,w.heap[G.β lev i]? =some (.cells #[p,cur.getD 1 undef] 103 fz):=by
  refine⟨cur.getD 0 undef,?_⟩
  rw[B.heap]
  congr 2
  apply Array.ext
  ·exact B.size
  ·intro j h1 h2
   have hsz:=B.size
   have:j=0∨j=1:=by omega
   rcases this with rfl|rfl
   ·simp[Array.getD_eq_getD_getElem?,hsz]
   ·simp[Array.getD_eq_getD_getElem?,hsz]
 obtain⟨p,hbk⟩:=hp1
 rw[hca]
 rcases hown with⟨hx0,hv0⟩|⟨g,cap,cur2,e2,sz,hv,hg,h1,h2',h3',h4,h5,h6,h7,h8⟩
 ·
  subst hx0
  have hs0:s=[]:=by injection hbs with h;exact h.symm
  subst hs0
  rw[hv0]at hbk
  refine(Fl hbk).mono fun e w2 ⟨k1,k2⟩=> ?_
  subst k1 k2
  rw[←hca]
  exact qy R1 hT1 ⟨fun _ _ _ h hb=>⟨h,hb⟩,fun _ _ h=>⟨h,rfl,rfl⟩,fun _ _ _ h hc=>⟨h,hc⟩,fun b cur e fz h=>⟨cur,fz,h,rfl⟩⟩ (fun b _=>⟨rfl,rfl⟩) rfl rfl rfl rfl (Nat.le_refl _) (fun b _ _=>⟨rfl,rfl⟩) rfl (fun b h=>by simp[aD]at h)
 ·rw[hv]at hbk
  have hob1:av G w (aM [LV.cv (CV.tref lev i 103 2)]).fr cargs (μ++[(aM [LV.cv (CV.tref lev i 103 2)]).lam]) (.ob lev i 1) g:=by
   simp only[av,hot]
   refine⟨cur,103,fz,B.heap,?_⟩
   have:=howns g (by rw[hv];simp[aD])
   exact this
  have hTg:ax G w (aM [LV.cv (CV.tref lev i 103 2)]) μ cargs g:= .inl ⟨_,hob1⟩
  have hne: ∀b,ax G w (aM [LV.cv (CV.tref lev i 103 2)]) (bN μ lev i .dead) cargs b→b≠g:=by
   intro b hb e
   subst e
   rcases hb with⟨q,hb⟩|⟨l,j,hb,e⟩
   ·rcases hO1 q b hb with h|⟨cs',k,h,_⟩
    ·have hq:=R.own q (.ob lev i 1) b h hob1
     subst hq
     obtain⟨cs',h,_⟩:=hO2 1 b hb
     cases h
    ·cases h
   ·exact R.apart (.ob lev i 1) b l j hob1 (hlv l j hb) e
  by_cases hx0:xs=[]
  ·subst hx0
   have hs0:s=[]:=by injection hbs with h;exact h.symm
   subst hs0
   have hcap:=h5 rfl
   subst hcap
   refine(BO hbk hg).mono fun e w2 ⟨k1,k2⟩=> ?_
   subst k1 k2
   rw[←hca]
   have hle:=nC (G:=G) (w:=w.drew) (.view ⟨g,0,none⟩ 5) 0
   have hle2:Le G w (G.setO w.drew.heap.size 0) (w.drew.alloc (.view ⟨g,0,none⟩ 5)):=⟨hle.map,hle.ref,hle.imm,hle.blk⟩
   have hold: ∀b,b<w.heap.size→(w.drew.alloc (.view ⟨g,0,none⟩ 5)).heap[b]? =w.heap[b]? ∧(G.setO w.drew.heap.size 0).O b=G.O b:=fun b hb=>⟨heap_alloc_old w.drew _ hb,cC (Nat.ne_of_lt hb)⟩
   exact qy R1 hT1 hle2 (fun b hb=>hold b (R1.touch_lt hb)) rfl rfl rfl rfl (by simp[World.alloc]) (fun b hb _=>hold b hb) rfl (fun b h=>by simp[aD]at h)
  ·have he:e2=5:=h8 (by rw[hbs];rfl) hx0
   subst he
   have hxs2:=oN hbs
   have hlen:xs.length=s.length:=by rw[hxs2,F9]
   have hs0:s≠[]:=by
    intro h
    rw[h]at hlen
    exact hx0 (List.eq_nil_of_length_eq_zero hlen)
   have hsz1:sz=1:=by
    cases xs with
    |nil=>exact absurd rfl hx0
    |cons c r=>
     have:=h4 c List.mem_cons_self
     have hc:c∈lu s:=by rw[←hxs2];exact List.mem_cons_self
     obtain⟨b,_,rfl⟩:=List.mem_map.1 hc
     exact this.symm
   subst hsz1
   obtain⟨olds,ho1,ho2⟩:=qP h6 h4
   have hcells: ∀(j:Nat) x,s[j]? =some x→w.cell? ⟨g,j,none⟩=some (.int .u8 x.toNat):=by
    intro j x hx
    have hflat:xs.flatMap CV.cells=lu s:=by rw[hxs2];exact od s
    rw[hflat]at ho1
    obtain⟨v,hv1,hv2⟩:=(dr ho1).2 j (CV.int .u8 (x.toNat:Int)) (by simp[lu,hx])
    simp only[VR]at hv2
    subst hv2
    have:=(ho2 j _ hv1).1
    simpa using this
   rw[hlen]at hbk h1
   refine(BN hbk hs0 hg h1 h2' (by omega) hcells).mono fun e w2 ⟨k1,k2⟩=> ?_
   subst k1 k2
   rw[←hca]
   obtain⟨f1,⟨fz',f2⟩,f3,f4,f5,f6⟩:=Az (n:=s.length) hg
   have hle:Le G w G (w.drew.freeze ⟨g,0,none⟩ s.length):=by
    refine⟨fun b es clk h hb=> ?_,fun _ _ h=>⟨h,rfl,rfl⟩,fun b off v h hc=>⟨h,?_⟩,fun b c e fz h=> ?_⟩
    ·have hb2:b≠g:=fun e=>by subst e;rw[hg]at hb;cases hb
     exact⟨h,by rw[f1 b hb2];exact hb⟩
    ·rw[←hc]
     unfold World.cell?
     by_cases hb2:b=g
     ·subst hb2
      simp only[f2,hg]
     ·simp only[f1 b hb2]
    ·by_cases hb2:b=g
     ·subst hb2
      rw[hg]at h
      obtain⟨rfl,rfl,rfl⟩:=(Obj.cells.injEq ..).mp (Option.some.inj h)
      exact⟨_,fz',f2,rfl⟩
     ·exact⟨c,fz,by rw[f1 b hb2];exact h,rfl⟩
   exact qy R1 hT1 hle (fun b hb=>⟨f1 b (hne b hb),rfl⟩) rfl f3 f4 f5 (by rw[f6];exact Nat.le_refl _) (fun b _ hn=>⟨f1 b (fun e=>hn (e▸hTg)),rfl⟩) rfl (fun b h=>by simp[aD]at h)
theorem JJ (B:Base W0):qV E W0:=by
 intro f g hf args μ out h
 have hp:Fc f=some g:=hf
 unfold Fc at hp
 split at hp<;>first|(cases hp;done)|skip
 all_goals(injection hp with hp;subst hp)
 all_goals first
  |exact E5 B h
  |exact LO B h
  |exact LP B h
  |exact zE B h
  |exact wV B h
  |exact BG B h
  |exact zF B h
  |exact JA B h
  |exact BE B h
  |exact M9 B h
  |exact BF B h
  |exact wU B h
  |exact ur h
  |exact zD h
  |exact HG h
theorem M1:E.P.follows .mixedOrders=true:=by kernel_rfl
end
end Go.Abs
set_option linter.unusedVariables false
set_option linter.unusedSimpArgs false
set_option maxRecDepth 100000
namespace Go.Proofs.YtfcjjankfjaapaaGreatDoor.TokensFixed
open Go Go.Proofs Go.Abs Go.ChangeShapes Go.WideShapes Go.ChangeAt Go.RowKit Glue
theorem js (H:Type)(enc:TypeId×Value→H)(W:World)(base:Nat)(args:Array Value)(ds gs:List (DataW H))(before:List MemPlace)
  (hval: ∀(j:Nat) t v,Tryz.f8.params[j]? =some t→args[j]? =some v→Value.okWide Tryz.prog W .any base t v)
  (hW:DataW.Whole enc Tryz.prog Tryz.f8.params.toList Rows.tokensFixedSpec.vars false W args.toList ds gs before) (hL:laidMetH Tryz.prog Rows.tokensFixedRow.laid W) (hS:W.ShapedOpen Tryz.prog):
  Calls Tryz.prog 8 args W fun e W'=> ∃v,e= .returned v∧Rows.tokensFixedSpec.post enc Tryz.prog Tryz.f8 false true false false W args v W':=by
 have hL':laidMet Tryz.prog ra W:=hL
 have B:=ya hL' hS
 have hW':=hW
 obtain⟨p,q,hA0,hV0,rfl,_,_⟩:=hW
 have hA:DataW.TrodAll enc Tryz.prog W 0 (fun _=>true) true Tryz.f8.params.toList args.toList ds p:=hA0
 rw[Tryz.params8]at hA hval
 obtain⟨v0,vs0,d0,ds0,p0,q0,e0,rfl,rfl,h0,r0⟩:=trodAll_cons hA
 obtain⟨rfl,rfl,rfl⟩:=trodAll_nil r0
 obtain rfl:args= #[v0]:=by cases args;simp_all
 obtain⟨rfl,rfl⟩:=trodVars_none hV0
 obtain⟨c0,V0,I0⟩:=Ga.open_arg (n:=8) (l:=[.str]) (by kernel_rfl) (hval 0 9 v0 rfl rfl) h0
 obtain⟨x0,X0⟩:=Ga.is_str (t:=9) (by kernel_rfl) I0
 clear hA0 hV0
 simp only[List.append_nil]at hW'
 have hm:ck Tryz.prog W 8 ([c0].map LV.cv) [] (.ret (LV.bool true) []):=by
  refine yI M1 (JJ B) ?_
  show (ev E).call 8 [LV.cv c0] []=_
  rw[(X0).1]
  exact OQ
 refine(ck.bool (cargs:= #[v0]) hm rfl (fun j x hx=> ?_)).mono fun e W' ⟨he,hk⟩=> ?_
 ·match j,hx with
  |0,hx=>injection hx with hx;subst hx;exact V0
 ·subst he
  exact⟨_,rfl,Ga.post_true (tb:=4) Lm (by kernel_rfl) Tryz.underlying4 (by kernel_rfl) rfl hW' rfl rfl rfl hk⟩
theorem BP (os:Os){H:Type}(enc:TypeId×Value→H):
  (OpenSpec.ofChange Rows.tokensFixedSpec).preRow enc Tryz.prog Tryz.f8 Rows.tokensFixedRow.domain false Rows.tokensFixedRow.laid ((gq os).forCall (fun _ _=>0) ⟨#[],#[.string ⟨#[]⟩],[]⟩).memory #[.string ⟨#[]⟩]:=by
 have hw:(DataW.whole enc Tryz.prog ((gq os).forCall (fun _ _=>0) ⟨#[],#[.string ⟨#[]⟩],[]⟩).memory Tryz.f8.params.toList Rows.tokensFixedSpec.vars false (#[.string ⟨#[]⟩]:Array Value).toList 8).map (fun x=>(x.1,x.2.1))=
   some ([.lit (.string [])],[]):=by kernel_rfl
 obtain⟨⟨x1,x2,x3⟩,hx,hx1⟩:=Option.map_eq_some_iff.1 hw
 simp only[Prod.mk.injEq]at hx1
 obtain⟨rfl,rfl⟩:=hx1
 exact OpenSpec.preRow_of_cond 8 hx (by kernel_rfl) (fun k hk=>by cases hk) (by kernel_rfl) (IS os _)
theorem MJ (os:Os)(started:os.Started)(H:Type)(enc:TypeId×Value→H)(F:Stop.Interp):
  ReturnsInHanded {} Tryz.checked os 8 .any ((OpenSpec.ofChange Rows.tokensFixedSpec).preRow enc Tryz.prog Tryz.f8 Rows.tokensFixedRow.domain false Rows.tokensFixedRow.laid) (((OpenSpec.ofChange Rows.tokensFixedSpec).at F).post enc Tryz.prog Tryz.f8 false true false false):=by
 refine returnsInHanded_of_row (C:=Tryz.checked) (s:=OpenSpec.ofChange Rows.tokensFixedSpec) own started (by kernel_rfl) Tryz.func8
  (witness_row_atRef (enc:=enc) (C:=Tryz.checked) false (gq os) #[.string ⟨#[]⟩] rfl (by kernel_rfl) (by kernel_rfl) (by kernel_rfl) (BP os enc)) ?_
 intro W base args ds gs before hval hW _ _ _ hL hS _
 exact js H enc W base args ds gs before hval hW hL hS
theorem said:Rows.TokensFixedSaid:=
 OpenClaim.holds_of_cond 8 Tryz.f8 rfl rfl rfl rfl rfl rfl rfl ⟨rfl,rfl,rfl,rfl,rfl⟩ rfl rfl rfl rfl rfl (by kernel_rfl) Tryz.func8 (by kernel_rfl)
  (of_decide_eq_true (by kernel_rfl)) (by unfold Func.isWrapper;first|(rw[if_pos (by decide+kernel)];kernel_rfl)|(rw[if_neg (by decide+kernel)];exact⟨rfl,rfl⟩))
  (fun os started H enc _ F=>by rw[OpenClaim.pre_eq_preRow];exact MJ os started H enc F)
theorem plain (f:FuncId)(fn:Func)(hf:Tryz.pinned.checked.prog.funcNamed "formulary/formularylaw03.TokensFixed" =some f)(hfn:Tryz.pinned.checked.prog.funcs[f]? =some fn):
  true=Tryz.pinned.checked.prog.looks []∧ ∀(j:Nat) t,fn.params[j]? =some t→Tryz.pinned.checked.prog.wantsStandIn t=false:=by
 obtain rfl:f=8:=Option.some.inj ((show Tryz.prog.funcNamed "formulary/formularylaw03.TokensFixed" =some 8 by kernel_rfl).symm.trans hf) |>.symm
 obtain rfl:fn=Tryz.f8:=(Option.some.inj (Tryz.func8.symm.trans hfn)).symm
 refine⟨by kernel_rfl,fun j t ht=> ?_⟩
 rw[Tryz.params8]at ht
 have hm:=Array.mem_of_getElem? ht
 simp only[List.mem_toArray,List.mem_cons,List.not_mem_nil,or_false]at hm
 subst hm
 ·exact(show Tryz.prog.wantsStandIn 9=false by kernel_rfl)
end Go.Proofs.YtfcjjankfjaapaaGreatDoor.TokensFixed
namespace Go.Proofs.YtfcjjankfjaapaaGreatDoor
theorem tokensFixed_holds:Rows.TokensFixedCardSaid:=
 Claim7.holds_tied_plain_at .later [] _ _ _ _ TokensFixed.said (fun _ h=>by cases h) (by kernel_rfl) (fun _ h=>by cases h) tokensFixed_row_tie rfl ⟨rfl,rfl⟩ (by kernel_rfl) rfl TokensFixed.plain (by kernel_rfl)
#print axioms tokensFixed_holds
end Go.Proofs.YtfcjjankfjaapaaGreatDoor
