/-
  The statement TokensAgainCardSaid, proved; part 6 of 6 of its proof.
  Tokens at the beginning of a list of characters, in free form.
  Canonical texts of tokens, read at the beginning of a longer text.
  The digits of a constant.
  The digits of a constant, by the reference; the constant of digits, by both.
  Valid tokens behind each other: when a text is split into them again.
  When two tokens beside each other are read as they are, they are so whatever comes behind.
  Two tokens beside each other: whatever comes behind.
  A REAL or DOUBLE constant beside a token: whatever comes behind.
  The canonical text of valid tokens is split into them; what is read from a text is valid.
  The text builder; whether a blank must stand between two tokens; the canonical text.
  The canonical text of tokens, by the program and by the reference.
  How long the canonical texts are of what is read from a text.
  TokensAgain: the law.
  The library's functions that are taken by contract: the builder's copy check and its text.
  TokensAgain answers true for every argument, and its arguments read as they did.
-/
import Derived.Test.YtfcjjankfjaapaaGreatDoorG4
import Derived.Test.YtfcjjankfjaapaaGreatDoorG3
import Derived.Shelf.Strings.BuilderK
import Derived.Test.YtfcjjankfjaapaaGreatDoorCards
import Derived.Test.YtfcjjankfjaapaaGreatDoorTie
import Derived.WalkKit
import Derived.OpenShut
set_option linter.all false
set_option linter.unusedSectionVars false
set_option linter.unusedVariables false
set_option linter.unusedSimpArgs false
namespace Go.Abs
open Go Go.Proofs
def rd (u:List UInt8):Except Int (Tok×Nat):=lc (cK false u 0 ((u[0]?).getD 0))
def shN (m:Nat):Except Int (Tok×Nat)→Except Int (Tok×Nat)
 | .ok q=> .ok (q.1,m+q.2)
 | .error e=> .error e
section
variable {s:List UInt8}{m:Nat}
theorem gX {j:Nat}:atC false s (m+j)=atC false (s.drop m) j:=by rw[cx,cx,List.getElem?_drop]
theorem km {j:Nat}(hm:m≤s.length):atE false s (m+j)=m+atE false (s.drop m) j:=by
 rw[dq,dq,List.length_drop]
 split<;>split<;>omega
theorem ue {p:UInt8→Bool}{j:Nat}(hp:p 0=false):bX false p s (m+j)=bX false p (s.drop m) j:=by rw[ct hp,ct hp,List.drop_drop]
theorem my {p:UInt8→Bool}{j:Nat}(hp:p 0=false):runE false p s (m+j)=m+runE false p (s.drop m) j:=by rw[cu hp,cu hp,List.drop_drop];omega
theorem qF {j:Nat}(hm:m≤s.length):bq false s (m+j)=((bq false (s.drop m) j).1,m+(bq false (s.drop m) j).2.1,(bq false (s.drop m) j).2.2):=by
 have h1:ce false s (m+j)=ce false (s.drop m) j:=by unfold ce;rw[km hm,ue ji]
 have h2:dotEnd false s (m+j)=m+dotEnd false (s.drop m) j:=by unfold dotEnd;rw[km hm,my ji,km hm]
 have h3:dK false s (m+j)=dK false (s.drop m) j:=by unfold dK;rw[h1,km hm,my ji,gX]
 unfold bq
 rw[gX,h1,h2,h3]
 split<;>rfl
theorem vd {j:Nat}(hm:m≤s.length):aL false s (m+j)=((aL false (s.drop m) j).1,(aL false (s.drop m) j).2.1,m+(aL false (s.drop m) j).2.2.1,(aL false (s.drop m) j).2.2.2):=by
 have h1:cz false s (m+j)=cz false (s.drop m) j:=by unfold cz;rw[gX]
 have h2:bF false s (m+j)=bF false (s.drop m) j:=by unfold bF;rw[km hm,gX]
 have h3:expStart false s (m+j)=m+expStart false (s.drop m) j:=by
  unfold expStart
  rw[km hm,gX,km hm]
  split<;>rfl
 have h4:aM false s (m+j)=aM false (s.drop m) j:=by unfold aM;rw[h3,ue bW]
 unfold aL
 rw[h1,h2,h3,h4,my bW]
 split<;>rfl
theorem Gf {j:Nat}(hm:m≤s.length):bR false s (m+j)=shN m (bR false (s.drop m) j):=by
 have h1:aW false s (m+j)=aW false (s.drop m) j:=by unfold aW;rw[ue bW]
 have h2:bL false s (m+j)=bL false (s.drop m) j:=by unfold bL;rw[h1,my bW,gX,qF hm]
 have h3:bG false s (m+j)=bG false (s.drop m) j:=by unfold bG;rw[h2,my bW,km hm,ue bW]
 have h4:numEnd false s (m+j)=m+numEnd false (s.drop m) j:=by
  unfold numEnd
  rw[h2,my bW,km hm,my bW]
  split<;>rfl
 unfold bR
 simp only[h1,h2,h3,h4,vd hm]
 split
 ·cases bS (aW false (s.drop m) j)<;>rfl
 ·unfold real
  split
  ·rfl
  ·split<;>rfl
theorem Gg {j:Nat}:dw s (m+j)=shN m (dw (s.drop m) j):=by
 unfold dw
 rw[List.getElem?_drop,List.drop_drop,Nat.add_assoc]
 cases bN ((s[m+j]?).getD 0) (s.drop (m+(j+1)))with
 |none=>rfl
 |some x=>
  simp only
  split
  ·rfl
  ·simp only[shN]
   congr 2
   omega
theorem Me {j:Nat}(hm:m≤s.length):dW false s (m+j)=shN m (dW false (s.drop m) j):=by
 unfold dW
 simp only[km hm,gX]
 split
 ·rfl
 ·split
  ·rfl
  ·split
   ·rfl
   ·split<;>rfl
theorem gj {q:Except Int (Tok×Nat)}:lc (noK q)=q:=by cases q<;>rfl
theorem Gx {c:UInt8}(hm:m≤s.length):lc (cK false s m c)=shN m (lc (cK false (s.drop m) 0 c)):=by
 have a1:bX false bi s m=bX false bi (s.drop m) 0:=ue (j:=0) p9
 have a2:runE false bi s m=m+runE false bi (s.drop m) 0:=my (j:=0) p9
 have a3:atC false s (m+1)=atC false (s.drop m) (0+1):=gX (j:=1)
 have a4:bR false s m=shN m (bR false (s.drop m) 0):=Gf (j:=0) hm
 have a5:bq false s m=((bq false (s.drop m) 0).1,m+(bq false (s.drop m) 0).2.1,(bq false (s.drop m) 0).2.2):=qF (j:=0) hm
 have a6:dW false s m=shN m (dW false (s.drop m) 0):=Me (j:=0) hm
 have a7:lc (di s m)=shN m (lc (di (s.drop m) 0)):=by rw[gi,gi];exact Gg (j:=0)
 unfold cK
 rw[a1,a2,a3,a4,a5,a6]
 split
 ·split<;>rfl
 ·split
  ·rw[gj,gj]
  ·split
   ·split<;>rfl
   ·split
    ·exact a7
    ·rw[gj,gj]
theorem Lb (hm:m≤s.length):lc (cK false s m ((s[m]?).getD 0))=shN m (rd (s.drop m)):=by
 rw[Gx hm]
 unfold rd
 rw[List.getElem?_drop,Nat.add_zero]
end
inductive Lex:List UInt8→List Tok→Prop
 |nil {u}:u.drop (aP u)=[]→Lex u []
 |cons {u v t e l}:u.drop (aP u)=v→v≠[]→rd v= .ok (t,e)→Lex (v.drop e) l→Lex u (t::l)
section
variable {s:List UInt8}
theorem y8 {k n:Nat}{out:List Tok}{kept:List Nat}(h:n+aP (s.drop n)<s.length):
  (∃x,rd ((s.drop n).drop (aP (s.drop n)))= .error x∧b7 false s (k+1) n out kept=(some (n+aP (s.drop n),x),out,kept))∨
  ∃t e kp,rd ((s.drop n).drop (aP (s.drop n)))= .ok (t,e)∧b7 false s (k+1) n out kept=b7 false s k (n+aP (s.drop n)+e) (out++[t]) (kept++kp):=by
 have hr:=Lb (s:=s) (m:=n+aP (s.drop n)) (by omega)
 rw[←List.drop_drop]at hr
 rw [show b7 false s (k + 1) n out kept = (if s.length ≤ n + aP (s.drop n) then (none, out, kept)
  else match fk false s out (n+aP (s.drop n))with
   | .error e=>(some (n+aP (s.drop n),e),out,kept)
   | .ok q=>b7 false s k q.2.1 (out++[q.1]) (kept++q.2.2))from rfl,if_neg (by omega),oU]
 cases ht:cK false s (n+aP (s.drop n)) ((s[n+aP (s.drop n)]?).getD 0)with
 |error x=>
  rw[ht]at hr
  cases hx:rd ((s.drop n).drop (aP (s.drop n)))with
  |error y=>
   rw[hx]at hr
   injection hr with hr
   subst hr
   exact Or.inl ⟨_,rfl,rfl⟩
  |ok q=>rw[hx]at hr;cases hr
 |ok q=>
  rw[ht]at hr
  cases hx:rd ((s.drop n).drop (aP (s.drop n)))with
  |error y=>rw[hx]at hr;cases hr
  |ok r=>
   rw[hx]at hr
   injection hr with hr
   refine Or.inr ⟨r.1,r.2,q.2.2,rfl,?_⟩
   have h1:q.1=r.1:=congrArg Prod.fst hr
   have h2:q.2.1=n+aP (s.drop n)+r.2:=congrArg Prod.snd hr
   simp only[h1,h2]
theorem yR {v:List UInt8}{t:Tok}{e:Nat}(h0: ∀c r,v=c::r→c≠32)(hv:v≠[])(h:rd v= .ok (t,e)):1≤e∧e≤v.length:=by
 obtain⟨c,r,rfl⟩: ∃c r,v=c::r:=by
  cases v with
  |nil=>exact absurd rfl hv
  |cons c r=>exact⟨c,r,rfl⟩
 have hf:=ul (fx:=false) (s:=c::r) (out:=[]) (n:=0) (c:=c) rfl (h0 c r rfl)
 rw[oU]at hf
 unfold rd at h
 cases hq:cK false (c::r) 0 (((c::r)[0]?).getD 0)with
 |error x=>rw[hq]at h;cases h
 |ok q=>
  rw[hq]at h hf
  injection h with h
  have h2:q.2.1=e:=congrArg Prod.snd h
  obtain⟨f1,f2,_⟩:=hf
  omega
theorem ka (u:List UInt8): ∀c r,u.drop (aP u)=c::r→c≠32:=j8 u
theorem Fx: ∀(k n:Nat) (out:List Tok) (kept:List Nat) (l:List Tok),s.length<n+k→n≤s.length→Lex (s.drop n) l→ ∃kp,b7 false s k n out kept=(none,out++l,kp):=by
 intro k
 induction k with
 |zero=>intro n out kept l h1 h2;omega
 |succ k ih=>
  intro n out kept l h1 h2 hl
  have hb:=kC (s.drop n)
  rw[List.length_drop]at hb
  cases hl with
  |nil h=>
   refine⟨kept,?_⟩
   have hlen:s.length≤n+aP (s.drop n):=by
    have:=congrArg List.length h
    rw[List.length_drop,List.length_drop]at this
    simp at this
    omega
   unfold b7
   rw[if_pos hlen,List.append_nil]
  |cons h hv hr hl=>
   rename_i v t e l
   have hlen:n+aP (s.drop n)<s.length:=by
    have h3:=congrArg List.length h
    rw[List.length_drop,List.length_drop]at h3
    have:v.length≠0:=fun e=>hv (List.eq_nil_of_length_eq_zero e)
    omega
   have hp:=yR (by rw[←h];exact ka _) hv hr
   have hvl:v.length=s.length-(n+aP (s.drop n)):=by rw[←h,List.length_drop,List.length_drop];omega
   rcases y8 (k:=k) (out:=out) (kept:=kept) hlen with⟨x,hx,_⟩|⟨t',e',kp,hx,hy⟩
   ·rw[h,hr]at hx;cases hx
   ·rw[h,hr]at hx
    injection hx with hx
    injection hx with h5 h6
    subst h5 h6
    rw[hy]
    obtain⟨kq,hq⟩:=ih (n+aP (s.drop n)+e) (out++[t]) (kept++kp) l (by omega) (by omega) (by rw[←List.drop_drop,←List.drop_drop,h];exact hl)
    exact⟨kq,by rw[hq];simp⟩
theorem Gl: ∀(k n:Nat) (out:List Tok) (kept:List Nat) (o:List Tok) (kp:List Nat),s.length<n+k→n≤s.length→b7 false s k n out kept=(none,o,kp)→ ∃l,o=out++l∧Lex (s.drop n) l:=by
 intro k
 induction k with
 |zero=>intro n out kept l kp h1 h2;omega
 |succ k ih=>
  intro n out kept o kp h1 h2 h
  have hb:=kC (s.drop n)
  rw[List.length_drop]at hb
  by_cases hlen:s.length≤n+aP (s.drop n)
  ·unfold b7 at h
   rw[if_pos hlen]at h
   injection h with _ h
   injection h with h _
   refine⟨[],by rw[h];simp,.nil ?_⟩
   rw[List.drop_drop]
   exact List.drop_eq_nil_of_le hlen
  ·obtain⟨v,hv⟩: ∃v,v=(s.drop n).drop (aP (s.drop n)):=⟨_,rfl⟩
   have hvl:v.length=s.length-(n+aP (s.drop n)):=by rw[hv,List.length_drop,List.length_drop];omega
   have hv0:v≠[]:=fun e=>by rw[e]at hvl;simp at hvl;omega
   rcases y8 (k:=k) (out:=out) (kept:=kept) (by omega:n+aP (s.drop n)<s.length)with⟨x,hx,hy⟩|⟨t',e',kq,hx,hy⟩
   ·rw[hy]at h;cases h
   ·rw[hy]at h
    rw[←hv]at hx
    have hp:=yR (by rw[hv];exact ka _) hv0 hx
    obtain⟨l,h3,h4⟩:=ih _ _ _ _ _ (by omega) (by omega) h
    refine⟨t'::l,by rw[h3];simp,.cons hv.symm hv0 hx ?_⟩
    rw[←List.drop_drop,←List.drop_drop,←hv]at h4
    exact h4
theorem rI {l:List Tok}(ht:cg s=0)(hl:Lex s l)(hn:l.length≤300):(ba false s).e=0∧cQ false s=l:=by
 obtain⟨kp,h⟩:=Fx (s:=s) (s.length+1) 0 [] [] l (by omega) (by omega) hl
 have hs:ba false s=⟨l,kp,l.length,0⟩:=by
  unfold ba
  rw[if_pos ht,h]
  simp only[List.nil_append]
  rw[if_pos (show (cC none).2=0 from rfl),if_neg (by omega)]
 refine⟨by rw[hs],?_⟩
 unfold cQ
 rw[hs]
 rfl
theorem mK (h:(ba false s).e=0):cg s=0∧Lex s (cQ false s)∧(cQ false s).length≤300:=by
 obtain⟨ht,hl,_⟩:=jW h
 have hT:cQ false s=(ba false s).toks:=by unfold cQ;rw[if_pos h]
 refine⟨ht,?_⟩
 rw[hT]
 unfold ba at h ⊢
 rw[if_pos ht]at h ⊢
 simp only at h ⊢
 obtain⟨x,o,kp,hr⟩: ∃x o kp,b7 false s (s.length+1) 0 [] []=(x,o,kp):=⟨_,_,_,rfl⟩
 rw[hr]at h ⊢
 simp only at h ⊢
 cases x with
 |none=>
  obtain⟨l,h1,h2⟩:=Gl (s:=s) (s.length+1) 0 [] [] o kp (by omega) (by omega) hr
  simp only[List.nil_append]at h1
  subst h1
  rw[if_pos (show (cC none).2=0 from rfl)]at h ⊢
  by_cases h3:300<o.length
  ·rw[if_pos h3]at h;exact absurd h (by simp)
  ·rw[if_neg h3]
   exact⟨h2,by show o.length≤300;omega⟩
 |some w=>
  have:=we (fx:=false) (s:=s) (s.length+1) 0 [] [] w.1 w.2 (by rw[hr])
  have e:(cC (some w)).2=w.2:=rfl
  rw[e,if_neg this]at h
  exact absurd h this
end
end Go.Abs
set_option linter.unusedVariables false
set_option linter.unusedSimpArgs false
namespace Go.Abs
open Go Go.Proofs
def hd (u:List UInt8):UInt8:=(u[0]?).getD 0
theorem df {c:UInt8}{r:List UInt8}:hd (c::r)=c:=rfl
theorem cI {a b:List UInt8}(h:a≠[]):hd (a++b)=hd a:=by
 cases a with
 |nil=>exact absurd rfl h
 |cons c r=>rfl
theorem Kh {p:UInt8→Bool}{u:List UInt8}(h:p (hd u)=false): ∀c t,u=c::t→p c=false:=by
 rintro c t rfl;exact h
theorem nz {p:UInt8→Bool}{v r:List UInt8}(h1: ∀b∈v,p b=true)(h2:p (hd r)=false):(v++r).takeWhile p=v:=jY (W:=[]) v r h1 (Kh h2)
theorem iB {a b:List UInt8}:(a++b).drop a.length=b:=List.drop_left' rfl
theorem at0 {u:List UInt8}:atC false u 0=hd u:=rfl
theorem uS (y:List UInt8):aL false y 0=if cz false y 0=69∨cz false y 0=68 then(cz false y 0,bF false y 0++aM false y 0,runE false ak y (expStart false y 0),!decide (aM false y 0=[]))else(0,[],0,false):=rfl
section
variable {W P y:List UInt8}
theorem gv (hw: ∀b∈W,ak b=true)(hp: ∀b∈P,ak b=true)(hP:P≠[])(hy:ak (hd y)=false):
  bR false (W++46::(P++y)) 0=real W P (aL false y 0).2.1 (aL false y 0).1 (aL false y 0).2.2.2 (W.length+1+P.length+(if(aL false y 0).2.2.2 then(aL false y 0).2.2.1 else 0)):=by
 obtain⟨u,hu⟩: ∃u,u=W++46::(P++y):=⟨_,rfl⟩
 have hul:u.length=W.length+1+P.length+y.length:=by rw[hu];simp;omega
 have d1:u.drop W.length=46::(P++y):=by rw[hu];exact iB
 have d2:u.drop (W.length+1)=P++y:=by rw[←List.drop_drop,d1];rfl
 have d3:u.drop (W.length+1+P.length)=y:=by rw[←List.drop_drop,d2];exact iB
 have t0:(u.drop 0).takeWhile ak=W:=by rw[List.drop_zero,hu];exact g0 (by decide) W _ hw
 have r0:runE false ak u 0=W.length:=by rw[cu bW,t0,Nat.zero_add]
 have w0:aW false u 0=W:=by unfold aW;rw[ct bW,t0]
 have c0:atC false u W.length=46:=by have:=gX (s:=u) (m:=W.length) (j:=0);rw[Nat.add_zero,d1]at this;rw[this];rfl
 have e0:atE false u W.length=W.length+1:=by rw[dq,if_pos (by omega)]
 obtain⟨c,r,hcr⟩: ∃c r,P=c::r:=by
  cases P with
  |nil=>exact absurd rfl hP
  |cons c r=>exact⟨c,r,rfl⟩
 have hcd:ak c=true:=hp c (by rw[hcr];simp)
 have hcl:aY c=false:=by
  have:=cr.1 hcd
  unfold aY
  rw[Bool.or_eq_false_iff,Bool.and_eq_false_iff,Bool.and_eq_false_iff,decide_eq_false_iff_not,decide_eq_false_iff_not,decide_eq_false_iff_not]
  omega
 have dt:(bq false u W.length).2.2=false:=by
  have h1:dK false u W.length=false:=by
   unfold dK
   rw[e0,cu ji,d2,hcr,List.cons_append,List.takeWhile_cons,hcl]
   have:atC false u (W.length+1)=c:=by have:=gX (s:=u) (m:=W.length+1) (j:=0);rw[Nat.add_zero,d2,hcr]at this;rw[this];rfl
   simp only[Bool.false_eq_true,if_false,List.length_nil,Nat.add_zero]
   rw[this,decide_eq_false (by rintro rfl;exact absurd hcd (by decide))]
   rfl
  unfold bq
  rw[if_pos c0]
  exact h1
 have nd:bL false u 0=true:=by unfold bL;rw[r0,c0,dt];rfl
 have np:bG false u 0=P:=by unfold bG;rw[if_pos nd,r0,e0,ct bW,d2];exact nz hp hy
 have ne:numEnd false u 0=W.length+1+P.length:=by unfold numEnd;rw[if_pos nd,r0,e0,cu bW,d2,nz hp hy]
 have hx:aL false u (W.length+1+P.length)=((aL false y 0).1,(aL false y 0).2.1,W.length+1+P.length+(aL false y 0).2.2.1,(aL false y 0).2.2.2):=by
  have:=vd (s:=u) (m:=W.length+1+P.length) (j:=0) (by omega)
  rw[d3]at this
  exact this
 rw[←hu]
 unfold bR
 simp only[nd,w0,np,ne,hx,Bool.not_true,Bool.false_and,Bool.false_eq_true,if_false]
 cases (aL false y 0).2.2.2<;>rfl
theorem qr (hw: ∀b∈W,ak b=true)(h0:W≠[])(hy:ak (hd y)=false)(hdot:hd y=46→dK false y 0=true):
  bR false (W++y) 0=if(aL false y 0).2.2.2 then real W [] (aL false y 0).2.1 (aL false y 0).1 true (W.length+(aL false y 0).2.2.1)else(match bS W with| .ok t=> .ok (t,W.length)| .error e=> .error e):=by
 obtain⟨u,hu⟩: ∃u,u=W++y:=⟨_,rfl⟩
 have hul:u.length=W.length+y.length:=by rw[hu];simp
 have d1:u.drop W.length=y:=by rw[hu];exact iB
 have t0:(u.drop 0).takeWhile ak=W:=by rw[List.drop_zero,hu];exact nz hw hy
 have r0:runE false ak u 0=W.length:=by rw[cu bW,t0,Nat.zero_add]
 have w0:aW false u 0=W:=by unfold aW;rw[ct bW,t0]
 have c0:atC false u W.length=hd y:=by have:=gX (s:=u) (m:=W.length) (j:=0);rw[Nat.add_zero,d1]at this;rw[this];rfl
 have hdt:bq false u W.length=((bq false y 0).1,W.length+(bq false y 0).2.1,(bq false y 0).2.2):=by
  have:=qF (s:=u) (m:=W.length) (j:=0) (by omega)
  rw[d1]at this
  exact this
 have nd:bL false u 0=false:=by
  unfold bL
  rw[r0,c0,w0,hdt]
  by_cases h46:hd y=46
  ·have:(bq false y 0).2.2=true:=by unfold bq;rw[at0,if_pos h46];exact hdot h46
   rw[this,decide_eq_false h0]
   simp
  ·rw[decide_eq_false h46];rfl
 have ne:numEnd false u 0=W.length:=by unfold numEnd;rw[nd,r0];rfl
 have np:bG false u 0=[]:=by unfold bG;rw[nd];rfl
 have hx:aL false u W.length=((aL false y 0).1,(aL false y 0).2.1,W.length+(aL false y 0).2.2.1,(aL false y 0).2.2.2):=by
  have:=vd (s:=u) (m:=W.length) (j:=0) (by omega)
  rw[d1]at this
  exact this
 rw[←hu]
 unfold bR
 simp only[nd,w0,np,ne,hx,Bool.not_false,Bool.true_and]
 cases (aL false y 0).2.2.2<;>rfl
theorem iT {w p d:List UInt8}{L:UInt8}{ok:Bool}{e:Nat}{q:Tok×Nat}(h:real w p d L ok e= .ok q):q.1.kind=1∧(q.1.type=1∨q.1.type=2)∧q.2=e:=by
 unfold real at h
 split at h
 ·cases h
 ·injection h with h
  subst h
  unfold cp
  split
  ·exact⟨rfl,Or.inr rfl,rfl⟩
  ·split
   ·exact⟨rfl,Or.inl rfl,rfl⟩
   ·exact⟨rfl,Or.inl rfl,rfl⟩
theorem lK {L:UInt8}{sg D r:List UInt8}(hL:L=69∨L=68)(hsg:sg=[]∨sg=[45])(hD: ∀b∈D,ak b=true)(h0:D≠[])(hr:ak (hd r)=false):
  aL false (L::(sg++(D++r))) 0=(L,sg++D,1+sg.length+D.length,true):=by
 obtain⟨c,q,hcq⟩: ∃c q,D=c::q:=by
  cases D with
  |nil=>exact absurd rfl h0
  |cons c r=>exact⟨c,r,rfl⟩
 have hcd:ak c=true:=hD c (by rw[hcq];simp)
 obtain⟨u,hu⟩: ∃u,u=L::(sg++(D++r)):=⟨_,rfl⟩
 have hul:u.length=1+sg.length+D.length+r.length:=by rw[hu];simp;omega
 have hD1:1≤D.length:=by rw[hcq];simp
 have hxL:cz false u 0=L:=by
  unfold cz
  rw[at0,hu,df]
  rcases hL with rfl|rfl<;>rfl
 have e0:atE false u 0=1:=by rw[dq,if_pos (by omega)]
 have hboth:expStart false u 0=1+sg.length∧bF false u 0=sg:=by
  unfold expStart bF
  rcases hsg with rfl|rfl
  ·have c1:atC false u 1=c:=by rw[cx,hu,hcq];rfl
   have n43:c≠43:=by rintro rfl;exact absurd hcd (by decide)
   have n45:c≠45:=by rintro rfl;exact absurd hcd (by decide)
   rw[e0,c1,if_neg n45,if_neg (by simp[n43,n45])]
   exact⟨rfl,rfl⟩
  ·have c1:atC false u 1=45:=by rw[cx,hu];rfl
   rw[e0,c1,if_pos rfl,if_pos (Or.inr rfl),dq,if_pos (by rw[hul];simp;omega)]
   exact⟨rfl,rfl⟩
 obtain⟨hst,hsi⟩:=hboth
 have d1:u.drop (1+sg.length)=D++r:=by
  rw[Nat.add_comm,hu,List.drop_succ_cons]
  exact iB
 have hdi:aM false u 0=D:=by unfold aM;rw[hst,ct bW,d1];exact nz hD hr
 have hre:runE false ak u (1+sg.length)=1+sg.length+D.length:=by rw[cu bW,d1,nz hD hr]
 rw[←hu,uS,hxL,if_pos hL,hsi,hdi,hst,hre,decide_eq_false h0]
 rfl
theorem ot {y:List UInt8}(h:hd y≠69∧hd y≠101∧hd y≠68∧hd y≠100):(aL false y 0).2.2.2=false:=by
 rw[uS,if_neg]
 unfold cz
 rw[at0]
 have:=CF (hd y)
 rintro(h1|h1)
 ·rcases this.1.1 h1 with h2|h2
  ·exact h.1 h2
  ·exact h.2.1 h2
 ·rcases this.2.1 h1 with h2|h2
  ·exact h.2.2.1 h2
  ·exact h.2.2.2 h2
theorem G8 {a c:UInt8}{r:List UInt8}(h1:ak c=false)(h2:c≠43)(h3:c≠45):(aL false (a::c::r) 0).2.2.2=false:=by
 have e0:atE false (a::c::r) 0=1:=rfl
 have c1:atC false (a::c::r) 1=c:=rfl
 have hst:expStart false (a::c::r) 0=1:=by
  unfold expStart
  rw[e0,c1,if_neg (by simp[h2,h3])]
 have hdi:aM false (a::c::r) 0=[]:=by
  unfold aM
  rw[hst,ct bW]
  show List.takeWhile ak (c::r)=[]
  rw[List.takeWhile_cons,h1]
  rfl
 rw[uS]
 split
 ·rw[hdi];rfl
 ·rfl
end
theorem lw {c:UInt8}(h:ak c=true):aY c=false:=by
 have:=cr.1 h
 unfold aY
 rw[Bool.or_eq_false_iff,Bool.and_eq_false_iff,Bool.and_eq_false_iff,decide_eq_false_iff_not,decide_eq_false_iff_not,decide_eq_false_iff_not]
 omega
theorem gB {u:List UInt8}(h:ak (hd u)=true∨(hd u=46∧ak (hd (u.drop 1))=true)):rd u=bR false u 0:=by
 have e1:atC false u (0+1)=hd (u.drop 1):=by have:=gX (s:=u) (m:=1) (j:=0);exact this
 unfold rd cK
 rw[show (u[0]?).getD 0=hd u from rfl,e1]
 rcases h with h|⟨h1,h2⟩
 ·rw[lw h,h,if_neg (by simp),Bool.true_or,if_pos rfl,gj]
 ·rw[h1,h2,if_neg (by decide),show (ak 46||(decide ((46:UInt8)=46)&&true))=true from rfl,if_pos rfl,gj]
theorem qx {u:List UInt8}(h:aY (hd u)=true):rd u=if 31<(u.takeWhile bi).length then .error 4 else .ok (⟨0,0,(u.takeWhile bi).map upB⟩,(u.takeWhile bi).length):=by
 unfold rd cK
 rw[show (u[0]?).getD 0=hd u from rfl,h,if_pos rfl,Ld,ct p9,cu p9,List.drop_zero,Nat.zero_add]
 split<;>rfl
theorem yP {u:List UInt8}(h:hd u=46)(h2:ak (hd (u.drop 1))=false):rd u=if dK false u 0 then .ok (cD (ce false u 0),dotEnd false u 0)else .error 7:=by
 have e1:atC false u (0+1)=hd (u.drop 1):=by have:=gX (s:=u) (m:=1) (j:=0);exact this
 unfold rd cK
 rw[show (u[0]?).getD 0=hd u from rfl,e1,h,h2,if_neg (by decide),show (ak 46||(decide ((46:UInt8)=46)&&false))=false from rfl,if_neg (by simp),if_pos rfl]
 unfold bq
 rw[at0,if_pos h]
 simp only
 split<;>rfl
theorem oK {u:List UInt8}(h:hd u=39∨hd u=34):rd u=dw u 0:=by
 unfold rd cK
 rw[show (u[0]?).getD 0=hd u from rfl]
 rcases h with h|h
 ·rw[h,if_neg (by decide),show (ak 39||(decide ((39:UInt8)=46)&&ak (atC false u (0+1))))=false from rfl,if_neg (by simp),if_neg (by decide),if_pos (by decide),gi]
 ·rw[h,if_neg (by decide),show (ak 34||(decide ((34:UInt8)=46)&&ak (atC false u (0+1))))=false from rfl,if_neg (by simp),if_neg (by decide),if_pos (by decide),gi]
def mz (c:UInt8):Bool:= !(aY c||ak c||decide (c=46)||decide (c=39)||decide (c=34)||decide (c=32)||decide (c=0))
theorem jV {c:UInt8}{r:List UInt8}(h:mz c=true):rd (c::r)=opC c (r[0]?) 0:=by
 unfold mz at h
 simp only[Bool.not_eq_true',Bool.or_eq_false_iff,decide_eq_false_iff_not]at h
 obtain⟨⟨⟨⟨⟨⟨h1,h2⟩,h3⟩,h4⟩,h5⟩,h6⟩,h7⟩:=h
 unfold rd cK
 rw[show ((c::r)[0]?).getD 0=c from rfl,h1,if_neg (by simp),h2,decide_eq_false h3,if_neg (by simp),if_neg h3,if_neg (by simp[h4,h5]),gj,KW (s:=c::r) (n:=0) (c:=c) rfl h6]
 rfl
end Go.Abs
set_option linter.unusedVariables false
set_option linter.unusedSimpArgs false
set_option maxRecDepth 100000
namespace Go.Abs
open Go Go.Proofs
section
variable {μ:Mu}{s:List UInt8}
section
variable {W P:List UInt8}{ty p:Int}
theorem HX (h:RealOK W P ty p):W.length≤31∧P.length≤31∧(Lib.itoa p).length≤21∧(aX W P ty p).length≤100:=by
 have h1:=mg (l:=W)
 have h2:=mg (l:=P)
 have h3:=h.cnt
 have h4:=Lib.itoa_length_le p (by have:=h.p1;omega) (by have:=h.p2;omega)
 refine⟨by omega,by omega,h4,?_⟩
 unfold aX bf
 split
 ·simp;omega
 ·split
  ·simp;omega
  ·simp;omega
theorem pR (h1: -999≤p)(h2:p≤999):bB (Lib.itoa p)=p:=by
 rcases gO p with⟨m,rfl,hi⟩|⟨m,hm,rfl,hi⟩
 ·have hl:=eF 3 m (by omega) (by omega)
  rw[hi]
  unfold bB
  rw[dm (gM m) (lJ m) (by omega),iX]
 ·have hl:=eF 3 m (by omega) (by omega)
  rw[hi]
  unfold bB
  rw[k9 (gM m) (lJ m) (by omega),iX]
end
end
end Go.Abs
set_option linter.unusedVariables false
set_option linter.unusedSimpArgs false
set_option maxRecDepth 100000
namespace Go.Abs
open Go Go.Proofs
section
variable {μ:Mu}{s:List UInt8}
section
variable {W P:List UInt8}{ty p:Int}{a:List UInt8}{b:Int}
theorem um (l:List UInt8):bD (l++[48])=bD l:=by
 unfold bD Lib.trimRightB
 rw[List.reverse_append]
 simp[List.dropWhile_cons]
theorem rN {l:List UInt8}{c:UInt8}(h:c≠48):bD (l++[c])=l++[c]:=by
 unfold bD Lib.trimRightB
 rw[List.reverse_append]
 simp[List.dropWhile_cons,h]
end
end
end Go.Abs
set_option linter.unusedVariables false
set_option linter.unusedSimpArgs false
namespace Go.Abs
open Go Go.Proofs
inductive VT:Tok→Prop
 |name {a}:jb a=true→VT ⟨0,0,a⟩
 |int {a}:ff a=true→valD 0 a≤2147483647→VT ⟨1,0,a⟩
 |real {W P ty p}:RealOK W P ty p→VT ⟨1,ty,aX W P ty p⟩
 |logic {a}:a=iz∨a=gm→VT ⟨1,5,a⟩
 |chars {u}:fT u=true→u.length≤60→VT ⟨1,6,bh u⟩
 |word {a}:a∈b9→VT ⟨2,0,a⟩
 |sign {a}:a∈bC→VT ⟨2,0,a⟩
section
variable {a r:List UInt8}
theorem ee (h:jb a=true):a.length≤31∧aY (hd a)=true∧(∀b∈a,bi b=true)∧a.map upB=a∧a≠[]:=by
 unfold jb wF at h
 simp only[Bool.and_eq_true,decide_eq_true_eq,Bool.not_eq_true']at h
 obtain⟨⟨⟨h1,h2⟩,h3⟩,h4⟩:=h
 cases a with
 |nil=>cases h2
 |cons c t=>exact⟨h1,h2,fun b hb=>List.all_eq_true.1 h3 b hb,(ie _).2 h4,by simp⟩
theorem BW (h:jb a=true)(hr:bi (hd r)=false):rd (a++r)= .ok (⟨0,0,a⟩,a.length):=by
 obtain⟨h1,h2,h3,h4,h5⟩:=ee h
 rw[qx (by rw[cI h5];exact h2),nz h3 hr,if_neg (by omega),h4]
theorem dQ (h:ff a=true):a.length≤10∧(∀b∈a,ak b=true)∧fZ a∧a≠[]∧ak (hd a)=true:=by
 obtain⟨h1,h2,h3⟩:=vA.1 h
 have h0:a≠[]:=dz h3
 refine⟨h1,h2,h3,h0,?_⟩
 cases a with
 |nil=>exact absurd rfl h0
 |cons c t=>exact h2 c (by simp)
theorem Jg (h:ff a=true)(h2:valD 0 a≤2147483647):bS a= .ok ⟨1,0,a⟩:=by
 obtain⟨f1,f2,f3,f4,_⟩:=dQ h
 have ha:=dm f2 f4 f1
 have hv:bB a=(valD 0 a:Nat):=by unfold bB;rw[ha]
 have hk:j5 a=true:=by unfold j5;rw[ha]
 unfold bS
 rw[if_neg (by rw[hk,hv];simp;omega),hv,lO,Bx a.length a rfl f2 f3]
theorem F7 (h:ff a=true)(h2:valD 0 a≤2147483647)(hr:ak (hd r)=false)(hdot:hd r=46→dK false r 0=true)(hx:(aL false r 0).2.2.2=false):rd (a++r)= .ok (⟨1,0,a⟩,a.length):=by
 obtain⟨f1,f2,f3,f4,f5⟩:=dQ h
 rw[gB (Or.inl (by rw[cI f4];exact f5)),qr f2 f4 hr hdot,hx,if_neg (by simp),Jg h h2]
section
variable {W P:List UInt8}{ty p:Int}
theorem nn (h:RealOK W P ty p):P≠[]:=fun e=>dz h.pl (by rw[e];rfl)
def kN (W W':List UInt8):Prop:=W'=W∨(W=[48]∧W'=[])
theorem GB (h:RealOK W P ty p){W':List UInt8}(hW:kN W W'): ∀b∈W',ak b=true:=by
 rcases hW with rfl|⟨_,rfl⟩
 ·exact h.wd
 ·intro b hb;cases hb
theorem lq (h:RealOK W P ty p){W':List UInt8}(hW:kN W W'):bj (cS W')=W∧(cS W').length=fa W:=by
 have h1:bj (cS W)=W:=by rw[←pS,vq h.wl]
 rcases hW with rfl|⟨h2,rfl⟩
 ·exact⟨h1,by rw[←om,h1]⟩
 ·rw[h2];exact⟨rfl,rfl⟩
theorem qO (h:RealOK W P ty p):bj (bD P)=P∧(bD P).length=fa P:=by
 have h1:bj (bD P)=P:=by rw[←sx,xb h.pl]
 exact⟨h1,by rw[←mI,h1]⟩
theorem Lc (l:List UInt8):bD (l++[48])=bD l:=um l
theorem yQ {W' y:List UInt8}(h:RealOK W P ty p)(hW:kN W W')(P':List UInt8)(hP':P'=P∨P'=P++[48])(hy:ak (hd y)=false):
  rd (W'++46::(P'++y))=real W' P' (aL false y 0).2.1 (aL false y 0).1 (aL false y 0).2.2.2 (W'.length+1+P'.length+(if(aL false y 0).2.2.2 then(aL false y 0).2.2.1 else 0)):=by
 have hP:=nn h
 have hd': ∀b∈P',ak b=true:=by
  rcases hP' with rfl|rfl
  ·exact h.pd
  ·intro b hb
   rcases List.mem_append.1 hb with hb|hb
   ·exact h.pd b hb
   ·rw[List.mem_singleton.1 hb];rfl
 have hne:P'≠[]:=by rcases hP' with rfl|rfl<;>simp[hP]
 rw[gB ?_,gv (GB h hW) hd' hne hy]
 have hW0:=dz h.wl
 rcases hW with rfl|⟨_,rfl⟩
 ·left
  rw[cI hW0]
  cases W' with
  |nil=>exact absurd rfl hW0
  |cons c t=>exact h.wd c (by simp)
 ·right
  refine⟨rfl,?_⟩
  show ak (hd (P'++y))=true
  rw[cI hne]
  cases P' with
  |nil=>exact absurd rfl hne
  |cons c t=>exact hd' c (by simp)
theorem un (h:RealOK W P ty p){P':List UInt8}(hP':P'=P∨P'=P++[48]):bj (bD P')=P∧(bD P').length=fa P:=by
 rcases hP' with rfl|rfl
 ·exact qO h
 ·rw[Lc];exact qO h
theorem oL (h:RealOK W P ty p){W' P':List UInt8}(hW:kN W W')(hP':P'=P∨P'=P++[48]):da W' P'=W++[46]++P:=by
 unfold da
 rw[(lq h hW).1,(un h hP').1]
theorem sP {W' P' y:List UInt8}(h:RealOK W P 1 0)(hW:kN W W')(hP':P'=P∨P'=P++[48])(hy:ak (hd y)=false)(hx:(aL false y 0).2.2.2=false):
  rd (W'++46::(P'++y))= .ok (⟨1,1,aX W P 1 0⟩,W'.length+1+P'.length):=by
 have hc:=h.cnt
 rw[yQ h hW P' hP' hy,hx]
 unfold real iU
 rw[(lq h hW).2,(un h hP').2,decide_eq_false (by omega),Bool.and_false,Bool.or_self,if_neg (by simp)]
 unfold cp dM
 simp only[Bool.false_eq_true,and_false,if_false,if_true,Nat.add_zero]
 rw[oL h hW hP']
 unfold aX bf
 rw[if_neg (by decide),if_neg (by simp)]
 simp
theorem tE (p:Int): ∃sg D,Lib.itoa p=sg++D∧(sg=[]∨sg=[45])∧(∀b∈D,ak b=true)∧D≠[]∧(sg=[45]→1≤valD 0 D∧p= -(valD 0 D:Nat))∧(sg=[]→p=(valD 0 D:Nat))∧(p=0→D=[48]):=by
 rcases gO p with⟨m,h1,h2⟩|⟨m,h0,h1,h2⟩
 ·refine⟨[],Lib.decDigits m,h2,Or.inl rfl,gM m,lJ m,fun e=>absurd e (by simp),fun _=>by rw[iX,h1],fun e=> ?_⟩
  have:m=0:=by omega
  subst this
  exact iN (by omega)
 ·exact⟨[45],Lib.decDigits m,h2,Or.inr rfl,gM m,lJ m,fun _=>by rw[iX];exact⟨h0,h1⟩,fun e=>absurd e (by simp),fun e=>by omega⟩
theorem J6:bB [48,48]=0:=by
 unfold bB
 rw[dm (by decide) (by simp) (by decide)]
 rfl
theorem sQ {W' z r:List UInt8}(h:RealOK W P ty p)(hp:ty=2∨p≠0)(hW:kN W W')(hz:z=[]∨(z=[48]∧p=0))(hr:ak (hd r)=false):
  rd (W'++46::(P++(bf ty p++(z++r))))= .ok (⟨1,ty,aX W P ty p⟩,W'.length+1+P.length+(bf ty p).length+z.length):=by
 obtain⟨sg,D,h1,h2,h3,h4,h5,h6,h7⟩:=tE p
 have hc:=h.cnt
 obtain⟨L,hL,hT⟩: ∃L,((L=68∧ty=2)∨(L=69∧ty=1∧p≠0))∧bf ty p=L::(sg++D):=by
  unfold bf
  rcases h.ty with ht|ht
  ·have hp':p≠0:=hp.resolve_left (by rw[ht];decide)
   exact⟨69,Or.inr ⟨rfl,ht,hp'⟩,by rw[if_neg (by rw[ht];decide),if_pos hp',h1];rfl⟩
  ·exact⟨68,Or.inl ⟨rfl,ht⟩,by rw[if_pos ht,h1];rfl⟩
 have hDz: ∀b∈D++z,ak b=true:=by
  intro b hb
  rcases List.mem_append.1 hb with hb|hb
  ·exact h3 b hb
  ·rcases hz with rfl|⟨rfl,_⟩
   ·cases hb
   ·rw[List.mem_singleton.1 hb];rfl
 have hy:bf ty p++(z++r)=L::(sg++((D++z)++r)):=by rw[hT];simp
 have hLs:L=69∨L=68:=by rcases hL with h|h;exact Or.inr h.1;exact Or.inl h.1
 have hE:=lK hLs h2 hDz (by simp[h4]) hr
 have hyd:ak (hd (L::(sg++((D++z)++r))))=false:=by rw[df];rcases hLs with rfl|rfl<;>rfl
 have hl3:D.length≤3:=by
  rcases gO p with⟨m,k1,k2⟩|⟨m,k0,k1,k2⟩
  ·have hp1:=h.p1;have hp2:=h.p2
   have hm:=eF 3 m (by omega) (by omega)
   have:(sg++D).length=(Lib.decDigits m).length:=by rw[←h1,k2]
   simp only[List.length_append]at this
   omega
  ·have hp1:=h.p1;have hp2:=h.p2
   have hm:=eF 3 m (by omega) (by omega)
   have e:(sg++D).length=(Lib.decDigits m).length+1:=by rw[←h1,k2];simp
   simp only[List.length_append]at e
   rcases h2 with rfl|rfl
   ·have:=h6 rfl;omega
   ·simp at e;omega
 have hzl:(D++z).length≤3:=by
  rcases hz with rfl|⟨rfl,hz0⟩
  ·simpa using hl3
  ·rw[h7 hz0];decide
 have hpre:(Lib.trimPrefix (sg++(D++z)) [45]).length≤3:=by
  rcases h2 with rfl|rfl
  ·rw[List.nil_append,(ek hDz).1];exact hzl
  ·rw[(ek hDz).2];exact hzl
 have hval:bB (sg++(D++z))=p:=by
  rcases hz with rfl|⟨rfl,hz0⟩
  ·rw[List.append_nil,←h1];exact pR h.p1 h.p2
  ·have:sg=[]:=by
    rcases h2 with h|h
    ·exact h
    ·have:=h5 h;omega
   rw[this,h7 hz0,hz0];exact J6
 rw[hy,yQ h hW P (Or.inl rfl) hyd,hE]
 simp only[if_true]
 unfold real iU
 rw[(lq h hW).2,(qO h).2,decide_eq_false (by omega),decide_eq_false (by omega),Bool.false_and,Bool.or_self,if_neg (by simp)]
 unfold cp dM
 simp only[if_true]
 rw[hval,oL h hW (Or.inl rfl)]
 have hlen:W'.length+1+P.length+(1+sg.length+(D++z).length)=W'.length+1+P.length+(bf ty p).length+z.length:=by
  rw[hT];simp;omega
 rw[hlen]
 rcases hL with⟨rfl,ht⟩|⟨rfl,ht,hp0⟩
 ·subst ht
  rw[if_pos ⟨rfl,trivial⟩]
  unfold aX bf
  rw[if_pos rfl]
  simp
 ·subst ht
  rw[if_neg (by simp),if_neg (fun e=>hp0 (vD.1 e))]
  unfold aX bf
  rw[if_neg (by decide),if_pos hp0]
  simp
end
theorem yO {u:List UInt8}(hu:u.length≤60)(hr:hd r≠39):rd (bh u++r)= .ok (⟨1,6,bh u⟩,(bh u).length):=by
 have h1:hd (bh u++r)=39:=rfl
 rw[oK (Or.inl h1)]
 have hq: ∀w:List UInt8,bN 39 (dbl w++([39]++r))=some (w,(dbl w).length+1):=by
  intro w
  induction w with
  |nil=>exact ft (fun d t h=>by rintro rfl;exact hr (by have h':r=39::t:=h;rw[h'];rfl))
  |cons c t ih=>
   by_cases hc:c=39
   ·subst hc
    rw[dbl,if_pos rfl,List.cons_append,List.cons_append,gA,ih]
    simp only[Option.map_some,List.length_cons]
   ·rw[dbl,if_neg hc,List.cons_append,iE hc,ih]
    simp only[Option.map_some,List.length_cons]
 unfold dw
 have e1:((bh u++r)[0]?).getD 0=39:=rfl
 have e2:(bh u++r).drop (0+1)=dbl u++([39]++r):=by show dbl u++[39]++r=_;simp
 rw[e1,e2,hq]
 simp only
 rw[if_neg (by omega),la]
 congr 2
 omega
theorem Cq {w:List UInt8}(hw:w.map upB=w):gK (w++r) 0 w=true:=by
 unfold gK
 rw[List.drop_zero,List.take_left' rfl,hw]
 simp
theorem JZ: ∀w∈eT,w.map upB=w:=by decide
theorem rO: ∀w∈eT,ak (hd (w.drop 1))=false∧hd w=46∧w≠[]∧w.drop 1≠[]:=by decide
theorem rk {w:List UInt8}(hw:w∈eT):rd (w++r)= .ok (cD w,w.length)∧dK false (w++r) 0=true:=by
 obtain⟨h1,h2,h3,h4⟩:=rO w hw
 obtain⟨k1,k2,k3,k4⟩:=iq (ko w hw) (Cq (r:=r) (JZ w hw))
 have hok:dK false (w++r) 0=true:=by
  unfold dK
  rw[k3,k2]
  rw[io]at hw
  simp only[List.mem_append,List.mem_cons,List.not_mem_nil,or_false]at hw
  rcases hw with hw|hw|hw
  ·have:b9.contains w=true:=by simpa using hw
   rw[this];rfl
  ·rw[decide_eq_true hw];simp
  ·rw[decide_eq_true hw];simp
 refine⟨?_,hok⟩
 have e2:ak (hd ((w++r).drop 1))=false:=by
  have:(w++r).drop 1=w.drop 1++r:=by
   cases w with
   |nil=>exact absurd rfl h3
   |cons c t=>rfl
  rw[this,cI h4];exact h1
 rw[yP (by rw[cI h3];exact h2) e2,hok,if_pos rfl,k2,k4,Nat.zero_add]
theorem uf: ∀w∈bC,(∃c,w=[c]∧mz c=true)∨(∃c d,w=[c,d]∧mz c=true∧opC c (some d) 0= .ok (⟨2,0,w⟩,2)):=by
 intro w hw
 simp only[bC,List.mem_cons,List.not_mem_nil,or_false]at hw
 rcases hw with rfl|rfl|rfl|rfl|rfl|rfl|rfl|rfl|rfl|rfl|rfl|rfl|rfl
 ·exact Or.inr ⟨_,_,rfl,rfl,rfl⟩
 ·exact Or.inr ⟨_,_,rfl,rfl,rfl⟩
 ·exact Or.inr ⟨_,_,rfl,rfl,rfl⟩
 all_goals exact Or.inl ⟨_,rfl,rfl⟩
end
end Go.Abs
set_option linter.unusedVariables false
set_option linter.unusedSimpArgs false
namespace Go.Abs
open Go Go.Proofs
def src (t:Tok)(x:List UInt8):Prop:=x=t.text∨(t.text=48::x∧hd x=46)
theorem eQ {t:Tok}{x:List UInt8}(h:ak (hd t.text)=false)(hx:src t x):x=t.text:=by
 rcases hx with h1|⟨h1,_⟩
 ·exact h1
 ·rw[h1]at h;exact absurd h (by rw[df];decide)
theorem B1 {a x:List UInt8}(h:ff a=true)(hx:src ⟨1,0,a⟩ x):x=a:=by
 rcases hx with h1|⟨h1,h2⟩
 ·exact h1
 ·obtain⟨_,f2,_⟩:=dQ h
  simp only at h1
  cases x with
  |nil=>cases h2
  |cons c t=>
   have h3:c=46:=h2
   have:=f2 c (by rw[h1];simp)
   rw[h3]at this
   exact absurd this (by decide)
section
variable {W P:List UInt8}{ty p:Int}
theorem oP {x:List UInt8}(h:RealOK W P ty p)(hx:src ⟨1,ty,aX W P ty p⟩ x): ∃W',kN W W'∧x=W'++46::(P++bf ty p):=by
 rcases hx with h1|⟨h1,h2⟩
 ·exact⟨W,Or.inl rfl,h1⟩
 ·simp only at h1
  refine⟨[],Or.inr ⟨?_,rfl⟩,?_⟩
  all_goals
   unfold aX at h1
   have hW:=dz h.wl
   cases hw:W with
   |nil=>exact absurd hw hW
   |cons c w=>
    rw[hw,List.cons_append]at h1
    injection h1 with h3 h4
    cases w with
    |nil=>first|(rw[h3];done)|(rw[List.nil_append]at h4;rw[←h4];rfl)
    |cons d w=>
     rw[←h4]at h2
     have h5:d=46:=h2
     have:=h.wd d (by rw[hw];simp)
     rw[h5]at this
     exact absurd this (by decide)
end
theorem jC {t:Tok}(h:VT t):t.text≠[]∧hd t.text≠32:=by
 cases h with
 |name h=>
  obtain⟨_,h2,_,_,h5⟩:=ee h
  refine⟨h5,fun e=> ?_⟩
  simp only at e
  rw[e]at h2;exact absurd h2 (by decide)
 |int h _=>
  obtain⟨_,_,_,h4,h5⟩:=dQ h
  refine⟨h4,fun e=> ?_⟩
  simp only at e
  rw[e]at h5;exact absurd h5 (by decide)
 |real h=>
  rename_i W P ty p
  have hW:=dz h.wl
  refine⟨by show aX W P ty p≠[];unfold aX;simp,fun e=> ?_⟩
  have e':hd (W++46::(P++bf ty p))=32:=e
  rw[cI hW]at e'
  cases W with
  |nil=>exact hW rfl
  |cons c w=>
   have:=h.wd c (by simp)
   rw[show c=32 from e']at this
   exact absurd this (by decide)
 |logic h=>rcases h with rfl|rfl<;>decide
 |chars h1 h2=>exact⟨by simp[bh],by show (39:UInt8)≠32;decide⟩
 |word h=>
  rename_i a
  exact(by decide: ∀w∈b9,w≠[]∧hd w≠32) a h
 |sign h=>
  rename_i a
  exact(by decide: ∀w∈bC,w≠[]∧hd w≠32) a h
theorem Gn {t:Tok}{x:List UInt8}(h:VT t)(hx:src t x):x≠[]∧hd x≠32:=by
 rcases hx with rfl|⟨_,h2⟩
 ·exact jC h
 ·refine⟨?_,by rw[h2];decide⟩
  rintro rfl
  exact absurd h2 (by decide)
theorem zj {t:Tok}(h:VT t)(hd0:ak (hd t.text)=true):(ff t.text=true∧ ∀b∈t.text,ak b=true)∨ ∃W P ty p,RealOK W P ty p∧t.text=W++46::(P++bf ty p):=by
 cases h with
 |name h=>exact absurd (ee h).2.1 (by rw[lw hd0];simp)
 |int h _=>exact Or.inl ⟨h,(dQ h).2.1⟩
 |real h=>exact Or.inr ⟨_,_,_,_,h,rfl⟩
 |logic h=>rcases h with rfl|rfl<;>exact absurd hd0 (by decide)
 |chars h1 h2=>exact absurd hd0 (show ¬ak 39=true by decide)
 |word h=>exact absurd hd0 (by rename_i a;have:=(by decide: ∀w∈b9,ak (hd w)=false) a h;simp[this])
 |sign h=>exact absurd hd0 (by rename_i a;have:=(by decide: ∀w∈bC,ak (hd w)=false) a h;simp[this])
theorem Lh {t:Tok}(h:VT t)(hd0:aY (hd t.text)=true):t.kind=0∧jb t.text=true:=by
 cases h with
 |name h=>exact⟨rfl,h⟩
 |int h _=>exact absurd hd0 (by rw[lw (dQ h).2.2.2.2];simp)
 |real h=>
  rename_i W P ty p
  have hW:=dz h.wl
  have e:aY (hd (W++46::(P++bf ty p)))=true:=hd0
  rw[cI hW]at e
  cases W with
  |nil=>exact absurd rfl hW
  |cons c w=>exact absurd e (by rw[df,lw (h.wd c (by simp))];simp)
 |logic h=>rcases h with rfl|rfl<;>exact absurd hd0 (by decide)
 |chars h1 h2=>exact absurd hd0 (show ¬aY 39=true by decide)
 |word h=>exact absurd hd0 (by rename_i a;have:=(by decide: ∀w∈b9,aY (hd w)=false) a h;simp[this])
 |sign h=>exact absurd hd0 (by rename_i a;have:=(by decide: ∀w∈bC,aY (hd w)=false) a h;simp[this])
theorem Lg {t:Tok}(h:VT t)(hd0:hd t.text=46):t.text∈eT:=by
 cases h with
 |name h=>exact absurd (ee h).2.1 (by simp only at hd0;rw[hd0];decide)
 |int h _=>exact absurd (dQ h).2.2.2.2 (by simp only at hd0;rw[hd0];decide)
 |real h=>
  rename_i W P ty p
  have hW:=dz h.wl
  have e:hd (W++46::(P++bf ty p))=46:=hd0
  rw[cI hW]at e
  cases W with
  |nil=>exact absurd rfl hW
  |cons c w=>exact absurd (h.wd c (by simp)) (by rw[show c=46 from e];decide)
 |logic h=>exact qh (by simpa using h)
 |chars h1 h2=>exact absurd hd0 (by show (39:UInt8)≠46;decide)
 |word h=>exact mq h
 |sign h=>rename_i a;exact absurd hd0 ((by decide: ∀w∈bC,hd w≠46) a h)
theorem Id {t:Tok}(h:VT t)(hd0:hd t.text=39): ∃u,t.text=bh u:=by
 cases h with
 |name h=>exact absurd (ee h).2.1 (by simp only at hd0;rw[hd0];decide)
 |int h _=>exact absurd (dQ h).2.2.2.2 (by simp only at hd0;rw[hd0];decide)
 |real h=>
  rename_i W P ty p
  have hW:=dz h.wl
  have e:hd (W++46::(P++bf ty p))=39:=hd0
  rw[cI hW]at e
  cases W with
  |nil=>exact absurd rfl hW
  |cons c w=>exact absurd (h.wd c (by simp)) (by rw[show c=39 from e];decide)
 |logic h=>rcases h with rfl|rfl<;>exact absurd hd0 (by decide)
 |chars h1 h2=>exact⟨_,rfl⟩
 |word h=>rename_i a;exact absurd hd0 ((by decide: ∀w∈b9,hd w≠39) a h)
 |sign h=>rename_i a;exact absurd hd0 ((by decide: ∀w∈bC,hd w≠39) a h)
theorem HT {v:List UInt8}{t:Tok}{e:Nat}(h:rd v= .ok (t,e))(hk:t.kind=0):t.text.length≤v.length:=by
 by_cases hl:aY (hd v)=true
 ·rw[qx hl]at h
  split at h
  ·cases h
  ·injection h with h
   injection h with h _
   subst h
   show ((v.takeWhile bi).map upB).length≤v.length
   rw[List.length_map]
   exact(List.takeWhile_prefix bi).length_le
 ·exfalso
  unfold rd cK at h
  rw[show (v[0]?).getD 0=hd v from rfl,if_neg hl]at h
  have num: ∀q:Except Int (Tok×Nat),(∀x,q= .ok x→x.1.kind≠0)→lc (noK q)≠ .ok (t,e):=by
   intro q hq e1
   rw[gj]at e1
   exact hq _ e1 hk
  split at h
  ·refine num _ (fun x hx=> ?_) h
   unfold bR at hx
   simp only at hx
   split at hx
   ·split at hx
    ·rename_i t' ht
     injection hx with hx
     subst hx
     unfold bS at ht
     split at ht
     ·cases ht
     ·injection ht with ht;subst ht;show (1:Int)≠0;decide
    ·cases hx
   ·rw[(iT hx).1];decide
  ·split at h
   ·split at h
    ·injection h with h
     injection h with h _
     rw[←h]at hk
     unfold cD at hk
     split at hk
     ·exact absurd hk (show (1:Int)≠0 by decide)
     ·exact absurd hk (show (2:Int)≠0 by decide)
    ·cases h
   ·split at h
    ·rw[gi]at h
     unfold dw at h
     split at h
     ·cases h
     ·split at h
      ·cases h
      ·injection h with h
       injection h with h _
       rw[←h]at hk
       exact absurd hk (show (1:Int)≠0 by decide)
    ·refine num _ (fun x hx=> ?_) h
     unfold dW at hx
     simp only at hx
     split at hx
     ·injection hx with hx;subst hx;show (2:Int)≠0;decide
     ·split at hx
      ·injection hx with hx;subst hx;show (2:Int)≠0;decide
      ·split at hx
       ·injection hx with hx;subst hx;show (2:Int)≠0;decide
       ·split at hx
        ·injection hx with hx;subst hx;show (2:Int)≠0;decide
        ·cases hx
theorem Jl {u:List UInt8}{t t2:Tok}(h0:hd u≠32)(hl:Lex u [t,t2]): ∃e,rd u= .ok (t,e)∧e<u.length∧(t2.kind=0→t2.text.length+e≤u.length):=by
 cases hl with
 |cons h1 h2 h3 h4=>
  rename_i v e
  have hb:aP u=0:=by
   cases u with
   |nil=>rfl
   |cons c r=>unfold aP;rw[if_neg (show c≠32 from h0)]
  rw[hb,List.drop_zero]at h1
  subst h1
  refine⟨e,h3,?_⟩
  cases h4 with
  |cons k1 k2 k3 k4=>
   rename_i w e2
   have hw:w.length≤u.length-e:=by rw[←k1,List.length_drop,List.length_drop];omega
   have hw0:w.length≠0:=fun e=>k2 (List.eq_nil_of_length_eq_zero e)
   refine⟨by omega,fun hk=> ?_⟩
   have:=HT k3 hk
   omega
def lz (t t2:Tok):Prop:=t.kind=1∧(t.type=0∨(t.type=1∧(69:UInt8) ∉ t.text))∧(t2.text=[69]∨t2.text=[68])
theorem FR {t2:Tok}(h2:VT t2)(hdd:ak (hd t2.text)=false)(hs: ¬(t2.text=[69]∨t2.text=[68])):
  (∀r,(aL false (t2.text++r) 0).2.2.2=false)∨ ∃c D r,t2.kind=0∧t2.text=c::(D++r)∧(c=69∨c=68)∧D≠[]∧(∀b∈D,ak b=true)∧ak (hd r)=false:=by
 by_cases hl:aY (hd t2.text)=true
 ·obtain⟨hk,hc⟩:=Lh h2 hl
  obtain⟨_,_,f3,f4,f5⟩:=ee hc
  obtain⟨c,q,hcq⟩: ∃c q,t2.text=c::q:=by
   cases h:t2.text with
   |nil=>exact absurd h f5
   |cons c q=>exact⟨c,q,rfl⟩
  rw[hcq]at f3 f4 hs ⊢
  have hup:mL c=false:=by
   have:=(ie (c::q)).1 f4
   rw[List.any_cons,Bool.or_eq_false_iff]at this
   exact this.1
  by_cases hED:c=69∨c=68
  ·cases q with
   |nil=>exact absurd (by rcases hED with rfl|rfl<;>simp) hs
   |cons d q=>
    have hdp:=f3 d (by simp)
    by_cases hdg:ak d=true
    ·refine Or.inr ⟨c,(d::q).takeWhile ak,(d::q).dropWhile ak,hk,by rw[List.takeWhile_append_dropWhile],hED,?_,fQ _,?_⟩
     ·rw[List.takeWhile_cons,hdg];simp
     ·cases hq:(d::q).dropWhile ak with
      |nil=>rfl
      |cons x y=>
       have:=List.head_dropWhile_not ak (l:=d::q) (by rw[hq];simp)
       simp only[hq,List.head_cons]at this
       exact this
    ·left
     intro r
     have n43:d≠43:=by rintro rfl;exact absurd hdp (by decide)
     have n45:d≠45:=by rintro rfl;exact absurd hdp (by decide)
     exact G8 (by simpa using hdg) n43 n45
  ·left
   intro r
   refine ot ⟨?_,?_,?_,?_⟩<;>rw[List.cons_append,df]
   ·exact fun e=>hED (Or.inl e)
   ·rintro rfl;exact absurd hup (by decide)
   ·exact fun e=>hED (Or.inr e)
   ·rintro rfl;exact absurd hup (by decide)
 ·left
  intro r
  refine ot ?_
  rw[cI (jC h2).1]
  refine⟨?_,?_,?_,?_⟩<;>(intro e;rw[e]at hl;exact hl (by decide))
end Go.Abs
set_option linter.unusedVariables false
set_option linter.unusedSimpArgs false
namespace Go.Abs
open Go Go.Proofs
def l5 (t t2:Tok):Prop:= ∃k,k≤1∧(k=1→ ∃q,t2.text=48::46::q)∧ ∀x r,src t x→rd (x++(t2.text++r))= .ok (t,x.length+k)
theorem Gj {t w:List UInt8}(h:dO t=some w):4≤w.length:=by
 unfold dO at h
 repeat' split at h
 all_goals first|(injection h with h;subst h;decide)|cases h
theorem KY {c:UInt8}{d:Option UInt8}{e:Nat}(h:opC c d 0= .ok (⟨2,0,[c]⟩,e)):e=1:=by
 unfold opC at h
 split at h
 ·rename_i w hw
  injection h with h
  injection h with h _
  injection h with _ _ h
  have:=Gj hw
  rw[h]at this
  simp at this
 ·split at h
  ·injection h with h
   injection h with h _
   injection h with _ _ h
   simp at h
  ·split at h
   ·injection h with h
    injection h with _ h
    omega
   ·split at h
    ·injection h with h
     injection h with _ h
     omega
    ·cases h
theorem Fd {a:List UInt8}{t2:Tok}(h:a∈bC)(h2:VT t2){e:Nat}(he:rd (a++t2.text)= .ok (⟨2,0,a⟩,e)):l5 ⟨2,0,a⟩ t2:=by
 have hx: ∀x,src ⟨2,0,a⟩ x→x=a:=fun x=>eQ ((by decide: ∀w∈bC,ak (hd w)=false) a h)
 refine⟨0,by omega,by omega,fun x r hxs=> ?_⟩
 rw[hx x hxs]
 rcases uf a h with⟨c,rfl,hc⟩|⟨c,d,rfl,hc,ho⟩
 ·have h0:=(jC h2).1
  have hg:(t2.text++r)[0]? =t2.text[0]? :=by
   cases hq:t2.text with
   |nil=>exact absurd hq h0
   |cons y z=>rfl
  rw[List.singleton_append,jV hc]at he
  rw[List.singleton_append,jV hc,hg,he,KY he]
  rfl
 ·rw[List.cons_append,jV hc]
  exact ho
theorem vz {a:List UInt8}{t t2:Tok}(h:a∈eT)(ht:t=cD a)(hx:t.text=a):l5 t t2:=by
 refine⟨0,by omega,by omega,fun x r hxs=> ?_⟩
 have:x=a:=by
  rw[←hx]
  refine eQ ?_ hxs
  rw[hx,(rO a h).2.1];rfl
 rw[this,(rk h).1,ht]
 rfl
theorem oJ: ∀(u l t:List UInt8) (k:Nat),bN 39 (dbl u++39::39::l)=some (t,k)→u.length<t.length
 |[],l,t,k,h=>by
  rw[dbl,List.nil_append,gA]at h
  cases hq:bN 39 l with
  |none=>rw[hq]at h;cases h
  |some x=>
   rw[hq]at h
   simp only[Option.map_some,Option.some.injEq,Prod.mk.injEq]at h
   rw[←h.1]
   simp
 |c::r,l,t,k,h=>by
  by_cases hc:c=39
  ·subst hc
   rw[dbl,if_pos rfl,List.cons_append,List.cons_append,gA]at h
   cases hq:bN 39 (dbl r++39::39::l)with
   |none=>rw[hq]at h;cases h
   |some x=>
    rw[hq]at h
    simp only[Option.map_some,Option.some.injEq,Prod.mk.injEq]at h
    have:=oJ r l x.1 x.2 hq
    rw[←h.1]
    simp
    omega
  ·rw[dbl,if_neg hc,List.cons_append,iE hc]at h
   cases hq:bN 39 (dbl r++39::39::l)with
   |none=>rw[hq]at h;cases h
   |some x=>
    rw[hq]at h
    simp only[Option.map_some,Option.some.injEq,Prod.mk.injEq]at h
    have:=oJ r l x.1 x.2 hq
    rw[←h.1]
    simp
    omega
theorem Cy {u v:List UInt8}(h:bh u=bh v):u=v:=by
 have h1:dbl u=dbl v:=by
  unfold bh at h
  simp only[List.cons_append,List.nil_append,List.cons.injEq,true_and]at h
  exact List.append_cancel_right h
 rw[←B4 u,h1,B4]
theorem CG {u:List UInt8}{t2:Tok}(hu:u.length≤60)(h2:VT t2){e:Nat}(he:rd (bh u++t2.text)= .ok (⟨1,6,bh u⟩,e)):l5 ⟨1,6,bh u⟩ t2:=by
 have h39:hd t2.text≠39:=by
  intro h39
  obtain⟨u2,hu2⟩:=Id h2 h39
  rw[hu2,oK (Or.inl rfl)]at he
  unfold dw at he
  have e1:((bh u++bh u2)[0]?).getD 0=39:=rfl
  have e2:(bh u++bh u2).drop (0+1)=dbl u++39::39::(dbl u2++[39]):=by show dbl u++[39]++([39]++dbl u2++[39])=_;simp
  rw[e1,e2]at he
  cases hq:bN 39 (dbl u++39::39::(dbl u2++[39]))with
  |none=>rw[hq]at he;cases he
  |some x=>
   rw[hq]at he
   simp only at he
   split at he
   ·cases he
   ·injection he with he
    injection he with he _
    injection he with _ _ he
    have:=oJ _ _ _ _ hq
    rw[Cy he]at this
    omega
 refine⟨0,by omega,by omega,fun x r hx=> ?_⟩
 have:x=bh u:=eQ (t:=⟨1,6,bh u⟩) rfl hx
 rw[this,yO hu (by rw[cI (jC h2).1];exact h39)]
 rfl
theorem Fc {a:List UInt8}{t2:Tok}(h:jb a=true)(h2:VT t2){e:Nat}(he:rd (a++t2.text)= .ok (⟨0,0,a⟩,e)):l5 ⟨0,0,a⟩ t2:=by
 obtain⟨h1,hl,h3,h4,h5⟩:=ee h
 have hp:bi (hd t2.text)=false:=by
  cases hq:bi (hd t2.text)with
  |false=>rfl
  |true=>
   exfalso
   rw[qx (by rw[cI h5];exact hl)]at he
   split at he
   ·cases he
   ·injection he with he
    injection he with he _
    injection he with _ _ he
    have hlen:=congrArg List.length he
    rw[List.length_map]at hlen
    obtain⟨c,y,hcy⟩: ∃c y,t2.text=c::y:=by
     cases hy:t2.text with
     |nil=>rw[hy]at hq;exact absurd hq (by decide)
     |cons c y=>exact⟨c,y,rfl⟩
    rw[hcy,df]at hq
    have hpre:a++[c] <+:(a++t2.text).takeWhile bi:=by
     rw[hcy]
     have:(a++c::y).takeWhile bi=a++(c::y).takeWhile bi:=List.takeWhile_append_of_pos h3
     rw[this,List.takeWhile_cons,hq]
     simp
    have:=hpre.length_le
    simp at this
    omega
 refine⟨0,by omega,by omega,fun x r hx=> ?_⟩
 have hx':x=a:=by
  refine eQ (t:=⟨0,0,a⟩) ?_ hx
  show ak (hd a)=false
  cases hq:ak (hd a)with
  |false=>rfl
  |true=>rw[lw hq]at hl;cases hl
 rw[hx',BW h (by rw[cI (jC h2).1];exact hp)]
 rfl
theorem Ha {a:List UInt8}{t2:Tok}(h:ff a=true)(hv:valD 0 a≤2147483647)(h2:VT t2)(hs: ¬(t2.text=[69]∨t2.text=[68])){e:Nat}(he:rd (a++t2.text)= .ok (⟨1,0,a⟩,e))(hlt:e<(a++t2.text).length):l5 ⟨1,0,a⟩ t2:=by
 obtain⟨f1,f2,f3,f4,f5⟩:=dQ h
 have h0:=(jC h2).1
 rw[gB (Or.inl (by rw[cI f4];exact f5))]at he
 have hd0:ak (hd t2.text)=false:=by
  cases hq:ak (hd t2.text)with
  |false=>rfl
  |true=>
   exfalso
   rcases zj h2 hq with⟨k1,k2⟩|⟨W,P,ty,p,k1,k2⟩
   ·have hall: ∀b∈a++t2.text,ak b=true:=by
     intro b hb
     rcases List.mem_append.1 hb with hb|hb
     ·exact f2 b hb
     ·exact k2 b hb
    have:=qr (W:=a++t2.text) (y:=[]) hall (by simp[f4]) rfl (fun e=>absurd e (by decide))
    rw[List.append_nil,show (aL false [] 0).2.2.2=false from rfl,if_neg (by simp)]at this
    rw[this]at he
    split at he
    ·injection he with he
     injection he with _ he
     omega
    ·cases he
   ·have hall: ∀b∈a++W,ak b=true:=by
     intro b hb
     rcases List.mem_append.1 hb with hb|hb
     ·exact f2 b hb
     ·exact k1.wd b hb
    have := gv (W := a ++ W) (P := P) (y := bf ty p) hall k1.pd (nn k1) (by
     cases hq:bf ty p with
     |nil=>rfl
     |cons c q=>exact uk (ty:=ty) (p:=p) c q hq)
    rw[List.append_assoc,←k2]at this
    rw[this]at he
    have:=(iT he).2.1
    exact absurd this (show ¬((0:Int)=1∨(0:Int)=2)by decide)
 have hdot:hd t2.text=46→ ∀r,dK false (t2.text++r) 0=true:=fun h46 r=>(rk (Lg h2 h46)).2
 have hno: ∀r,(aL false (t2.text++r) 0).2.2.2=false:=by
  rcases FR h2 hd0 hs with hn|⟨c,D,r,hk,hb,hc,hD,hdd,hr⟩
  ·exact hn
  ·exfalso
   have hcc:c≠46:=by rcases hc with rfl|rfl<;>decide
   have hcd:ak c=false:=by rcases hc with rfl|rfl<;>rfl
   have hE:=lK (sg:=[]) hc (Or.inl rfl) hdd hD hr
   rw[List.nil_append]at hE
   have:=qr (W:=a) (y:=t2.text) f2 f4 hd0 (by rw[hb,df];exact fun e=>absurd e hcc)
   rw[hb,hE]at this
   rw[hb,this]at he
   simp only[if_true]at he
   have:=(iT he).2.1
   exact absurd this (show ¬((0:Int)=1∨(0:Int)=2)by decide)
 refine⟨0,by omega,by omega,fun x r hx=> ?_⟩
 rw[B1 h hx,F7 h hv (by rw[cI h0];exact hd0) (by rw[cI h0];exact fun e=>hdot e r) (hno r)]
 rfl
end Go.Abs
set_option linter.unusedVariables false
set_option linter.unusedSimpArgs false
namespace Go.Abs
open Go Go.Proofs
section
variable {W P:List UInt8}{ty p:Int}
theorem iO {a b:List UInt8}(ha: ∀x∈a,ak x=true)(hb: ∀x∈b,ak x=true): ∀x∈a++b,ak x=true:=by
 intro x hx
 rcases List.mem_append.1 hx with h|h
 ·exact ha x h
 ·exact hb x h
theorem BX {W y:List UInt8}(hw: ∀b∈W,ak b=true)(h0:W≠[]):ak (hd (W++y))=true:=by
 rw[cI h0]
 cases W with
 |nil=>exact absurd rfl h0
 |cons c t=>exact hw c (by simp)
theorem F1 {P Q:List UInt8}(hP:fZ P.reverse)(hQ:fZ Q)(h:bj (bD (P++Q))=P):Q=[48]:=by
 have key: ∀(c:UInt8) (r:List UInt8),Q=c::r→c≠48→False:=by
  rintro c r rfl hc
  have h1:P++[c] <+: bD (P++c::r):=by
   have h2:P++c::r=(P++[c])++r:=by simp
   rw[h2]
   have go: ∀(n:Nat) (r:List UInt8),r.length=n→P++[c] <+: bD (P++[c]++r):=by
    intro n
    induction n with
    |zero=>
     intro r hr
     rw[List.eq_nil_of_length_eq_zero hr,List.append_nil,rN hc]
     exact List.prefix_refl _
    |succ n ih=>
     intro r hr
     rcases List.eq_nil_or_concat r with h3|⟨q,x,h3⟩
     ·rw[h3]at hr;cases hr
     ·rw[List.concat_eq_append]at h3
      rw[h3]at hr ⊢
      rw[←List.append_assoc]
      by_cases hx:x=48
      ·rw[hx,um];exact ih q (by simpa using hr)
      ·rw[rN hx,List.append_assoc]
       exact List.prefix_append _ _
   exact go r.length r rfl
  have h2:=h1.length_le
  have h3:bD (P++c::r)≠[]:=fun e=>by rw[e]at h2;simp at h2
  unfold bj at h
  rw[if_neg h3]at h
  rw[h]at h2
  simp at h2
  omega
 rcases hQ with h1|⟨c,r,h1,h2⟩
 ·obtain⟨c,rfl⟩:=List.length_eq_one_iff.1 h1
  by_cases hc:c=48
  ·rw[hc]
  ·exact absurd (key c [] rfl hc) id
 ·exact absurd (key c r h1 h2) id
theorem Ic {Q:List UInt8}(hd: ∀b∈Q,ak b=true)(hQ:fZ Q)(h:valD 0 Q=0):Q=[48]:=by
 rcases hQ with h1|⟨c,r,h1,h2⟩
 ·obtain⟨c,rfl⟩:=List.length_eq_one_iff.1 h1
  have h3:=cr.1 (hd c (by simp))
  have h4:valD 0 [c]=0*10+(c.toNat-48):=by rw[dk,gE]
  rw[h]at h4
  have:c=48:=UInt8.toNat.inj (by show c.toNat=48;omega)
  rw[this]
 ·have:=zi (c:=c) (r:=r) (by rw[←h1];exact hd) h2
  rw[←h1]at this
  omega
theorem CH {t2:Tok}(h:RealOK W P 1 0)(h2:VT t2)(hs: ¬(t2.text=[69]∨t2.text=[68])){e:Nat}(he:rd (aX W P 1 0++t2.text)= .ok (⟨1,1,aX W P 1 0⟩,e))
  (hlt:e<(aX W P 1 0++t2.text).length) (hn:t2.kind=0→t2.text.length+e≤(aX W P 1 0++t2.text).length):l5 ⟨1,1,aX W P 1 0⟩ t2:=by
 have h0:=(jC h2).1
 have hW0:=dz h.wl
 have hT:aX W P 1 0=W++46::P:=by unfold aX bf;rw[if_neg (by decide),if_neg (by simp),List.append_nil]
 have hsplit: ∀y,aX W P 1 0++y=W++46::(P++y):=fun y=>by rw[hT];simp
 have hl0:(aX W P 1 0).length=W.length+1+P.length:=by rw[hT];simp;omega
 rw[hsplit]at he hlt hn
 simp only[List.length_append,List.length_cons]at hlt hn
 rw[gB (Or.inl (BX h.wd hW0))]at he
 have hsrc: ∀x,src ⟨1,1,aX W P 1 0⟩ x→ ∃W',kN W W'∧x=W'++46::P:=by
  intro x hx
  obtain⟨W',k1,k2⟩:=oP h hx
  exact⟨W',k1,by rw[k2];unfold bf;rw[if_neg (by decide),if_neg (by simp),List.append_nil]⟩
 cases hdg:ak (hd t2.text)with
 |true=>
  rcases zj h2 hdg with⟨k1,k2⟩|⟨W2,P2,ty2,p2,k1,k2⟩
  ·exfalso
   have:=gv (W:=W) (P:=P++t2.text) (y:=[]) h.wd (iO h.pd k2) (by simp[h0]) rfl
   rw[List.append_nil]at this
   rw[this]at he
   have:=(iT he).2.2
   simp only[show (aL false [] 0).2.2.2=false from rfl,Bool.false_eq_true,if_false,List.length_append]at this
   omega
  ·have hnd:ak (hd (46::(P2++bf ty2 p2)))=false:=rfl
   have hex: ∀y,(aL false (46::y) 0).2.2.2=false:=fun y=>ot (by rw[df];decide)
   have:=gv (W:=W) (P:=P++W2) (y:=46::(P2++bf ty2 p2)) h.wd (iO h.pd k1.wd) (by simp[nn h]) hnd
   rw[List.append_assoc,←k2,hex]at this
   rw[this]at he
   unfold real at he
   split at he
   ·cases he
   ·injection he with he
    injection he with he _
    unfold cp dM at he
    simp only[Bool.false_eq_true,and_false,if_false,if_true]at he
    injection he with _ _ he
    have hw:=(lq h (Or.inl rfl)).1
    unfold da at he
    rw[hw,hT]at he
    have he':bj (bD (P++W2))=P:=by
     have:W++46::bj (bD (P++W2))=W++46::P:=by rw[←he];simp
     have:=List.append_cancel_left this
     injection this
    have hW2:=F1 h.pl k1.wl he'
    refine⟨1,Nat.le_refl 1,fun _=>⟨P2++bf ty2 p2,by rw[k2,hW2];rfl⟩,fun x r hx=> ?_⟩
    obtain⟨W',k3,k4⟩:=hsrc x hx
    have hx':x++(t2.text++r)=W'++46::((P++[48])++(46::(P2++(bf ty2 p2++r)))):=by rw[k4,k2,hW2];simp
    rw[hx',sP h k3 (Or.inr rfl) rfl (hex _),k4]
    congr 2
    simp
    omega
 |false=>
  have hno: ∀r,(aL false (t2.text++r) 0).2.2.2=false:=by
   rcases FR h2 hdg hs with hh|⟨c,D,r,hk,hb,hc,hD,hdd,hr⟩
   ·exact hh
   ·exfalso
    have hE:=lK (sg:=[]) hc (Or.inl rfl) hdd hD hr
    rw[List.nil_append]at hE
    have:=gv (W:=W) (P:=P) (y:=t2.text) h.wd h.pd (nn h) hdg
    rw[hb,hE]at this
    rw[hb,this]at he
    simp only[if_true]at he
    have h3:=(iT he).2.2
    have h4:=hn hk
    simp only[List.length_nil]at h3
    omega
  refine⟨0,by omega,by omega,fun x r hx=> ?_⟩
  obtain⟨W',k3,k4⟩:=hsrc x hx
  have hx':x++(t2.text++r)=W'++46::(P++(t2.text++r)):=by rw[k4];simp
  rw[hx',sP h k3 (Or.inl rfl) (by rw[cI h0];exact hdg) (hno r),k4]
  congr 2
  simp
  omega
theorem IV {sg D:List UInt8}(hsg:sg=[]∨sg=[45])(hd: ∀b∈D,ak b=true)(h0:D≠[])(hl:D.length≤10):bB (sg++D)=if sg=[]then((valD 0 D:Nat):Int)else -((valD 0 D:Nat):Int):=by
 unfold bB
 rcases hsg with rfl|rfl
 ·rw[List.nil_append,dm hd h0 hl,if_pos rfl]
 ·rw[List.singleton_append,k9 hd h0 hl,if_neg (by simp)]
theorem CI {t2:Tok}(h:RealOK W P ty p)(hp:ty=2∨p≠0)(h2:VT t2){e:Nat}(he:rd (aX W P ty p++t2.text)= .ok (⟨1,ty,aX W P ty p⟩,e))
  (hlt:e<(aX W P ty p++t2.text).length):l5 ⟨1,ty,aX W P ty p⟩ t2:=by
 have h0:=(jC h2).1
 have hW0:=dz h.wl
 have hsplit: ∀y,aX W P ty p++y=W++46::(P++(bf ty p++y)):=fun y=>by unfold aX;simp
 rw[hsplit]at he hlt
 simp only[List.length_append,List.length_cons]at hlt
 cases hdg:ak (hd t2.text)with
 |false=>
  refine⟨0,by omega,by omega,fun x r hx=> ?_⟩
  obtain⟨W',k3,k4⟩:=oP h hx
  have hx':x++(t2.text++r)=W'++46::(P++(bf ty p++([]++(t2.text++r)))):=by rw[k4];simp
  rw[hx',sQ h hp k3 (Or.inl rfl) (by rw[cI h0];exact hdg),k4]
  congr 2
  simp
  omega
 |true=>
  rw[gB (Or.inl (BX h.wd hW0))]at he
  obtain⟨sg,D,h1,hsg,h3,h4,h5,h6,h7⟩:=tE p
  obtain⟨L,hL,hT⟩: ∃L,((L=68∧ty=2)∨(L=69∧ty=1∧p≠0))∧bf ty p=L::(sg++D):=by
   unfold bf
   rcases h.ty with ht|ht
   ·have hp':p≠0:=hp.resolve_left (by rw[ht];decide)
    exact⟨69,Or.inr ⟨rfl,ht,hp'⟩,by rw[if_neg (by rw[ht];decide),if_pos hp',h1];rfl⟩
   ·exact⟨68,Or.inl ⟨rfl,ht⟩,by rw[if_pos ht,h1];rfl⟩
  have hLs:L=69∨L=68:=by rcases hL with h|h;exact Or.inr h.1;exact Or.inl h.1
  have hyd: ∀y,ak (hd (L::y))=false:=fun y=>by rw[df];rcases hLs with rfl|rfl<;>rfl
  rcases zj h2 hdg with⟨k1,k2⟩|⟨W2,P2,ty2,p2,k1,k2⟩
  ·exfalso
   have hE:=lK (r:=[]) hLs hsg (iO h3 k2) (by simp[h4]) rfl
   have:=gv (W:=W) (P:=P) (y:=L::(sg++((D++t2.text)++[]))) h.wd h.pd (nn h) (hyd _)
   rw[hE]at this
   have hy:bf ty p++t2.text=L::(sg++((D++t2.text)++[])):=by rw[hT];simp
   rw[hy,this]at he
   simp only[if_true]at he
   have h8:=(iT he).2.2
   rw[hT]at hlt
   simp only[List.length_append,List.length_cons]at h8 hlt
   omega
  ·have hW2:=dz k1.wl
   have hE:=lK (r:=46::(P2++bf ty2 p2)) hLs hsg (iO h3 k1.wd) (by simp[h4]) rfl
   have:=gv (W:=W) (P:=P) (y:=L::(sg++((D++W2)++46::(P2++bf ty2 p2)))) h.wd h.pd (nn h) (hyd _)
   rw[hE]at this
   have hy:bf ty p++t2.text=L::(sg++((D++W2)++46::(P2++bf ty2 p2))):=by rw[hT,k2];simp
   rw[hy,this]at he
   simp only[if_true]at he
   unfold real at he
   split at he
   ·cases he
   ·rename_i hlong
    injection he with he
    injection he with he _
    have hl3:(D++W2).length≤3:=by
     unfold iU at hlong
     simp only[Bool.and_true,Bool.or_eq_true,decide_eq_true_eq,not_or]at hlong
     have h8:=hlong.2
     rcases hsg with rfl|rfl
     ·rw[List.nil_append,(ek (iO h3 k1.wd)).1]at h8;omega
     ·rw[(ek (iO h3 k1.wd)).2]at h8;omega
    obtain⟨v,hv⟩: ∃v,v=bB (sg++(D++W2)):=⟨_,rfl⟩
    have hvv:=IV hsg (iO h3 k1.wd) (by simp[h4]) (by omega:(D++W2).length≤10)
    rw[←hv]at hvv
    have hbd:=(dP (D++W2) 0 (iO h3 k1.wd)).2
    have h10:10^(D++W2).length≤10^3:=Nat.pow_le_pow_right (by omega) hl3
    have hr1: -999≤v∧v≤999:=by
     rw[hvv]
     split<;>omega
    have hval:valD 0 (D++W2)=valD 0 D*10^W2.length+valD 0 W2:=by
     rw[←nD]
     unfold valD
     rw[List.foldl_append]
    have hW10:10≤10^W2.length:=by
     have:1≤W2.length:=by cases hq:W2 with|nil=>exact absurd hq hW2|cons c r=>simp
     calc 10=10^1:=rfl
      _≤10^W2.length:=Nat.pow_le_pow_right (by omega) this
    have hmul:valD 0 D*10≤valD 0 D*10^W2.length:=Nat.mul_le_mul_left _ hW10
    have hvp:v=p:=by
     unfold cp dM at he
     simp only[if_true,and_true]at he
     rw[←hv,oL h (Or.inl rfl) (Or.inl rfl)]at he
     have hin:Lib.itoa v=Lib.itoa p→v=p:=fun e=>by rw[←pR hr1.1 hr1.2,e,pR h.p1 h.p2]
     rcases hL with⟨rfl,ht⟩|⟨rfl,ht,hp0⟩
     ·subst ht
      rw[if_pos rfl]at he
      injection he with _ _ he
      unfold aX bf at he
      rw[if_pos rfl]at he
      apply hin
      have:(W++[46]++P++[68])++Lib.itoa v=(W++[46]++P++[68])++Lib.itoa p:=by rw[he];simp
      exact List.append_cancel_left this
     ·subst ht
      rw[if_neg (by decide)]at he
      split at he
      ·injection he with _ _ he
       unfold aX bf at he
       rw[if_neg (by decide),if_pos hp0]at he
       have:=congrArg List.length he
       simp at this
      ·injection he with _ _ he
       unfold aX bf at he
       rw[if_neg (by decide),if_pos hp0]at he
       apply hin
       have:(W++[46]++P++[69])++Lib.itoa v=(W++[46]++P++[69])++Lib.itoa p:=by rw[List.append_assoc (W++[46]++P),he];simp
       exact List.append_cancel_left this
    have hp0:p=0∧valD 0 W2=0:=by
     rcases hsg with rfl|rfl
     ·have h8:=h6 rfl
      rw[if_pos rfl]at hvv
      omega
     ·have h8:=h5 rfl
      rw[if_neg (by simp)]at hvv
      omega
    have hz:=Ic k1.wd k1.wl hp0.2
    refine⟨1,Nat.le_refl 1,fun _=>⟨P2++bf ty2 p2,by rw[k2,hz];rfl⟩,fun x r hx=> ?_⟩
    obtain⟨W',k3,k4⟩:=oP h hx
    have hx':x++(t2.text++r)=W'++46::(P++(bf ty p++([48]++(46::(P2++(bf ty2 p2++r)))))):=by rw[k4,k2,hz];simp
    rw[hx',sQ h hp k3 (Or.inr ⟨rfl,hp0.1⟩) rfl,k4]
    congr 2
    simp
    omega
end
theorem Hb {t t2:Tok}(h:VT t)(h2:VT t2)(hs: ¬lz t t2)(hl:Lex (t.text++t2.text) [t,t2]):l5 t t2:=by
 obtain⟨e,h3,h4,h5⟩:=Jl (by rw[cI (jC h).1];exact(jC h).2) hl
 cases h with
 |name k=>exact Fc k h2 h3
 |int k1 k2=>exact Ha k1 k2 h2 (fun e=>hs ⟨rfl,Or.inl rfl,e⟩) h3 h4
 |real k=>
  rename_i W P ty p
  by_cases hp:ty=2∨p≠0
  ·exact CI k hp h2 h3 h4
  ·have ht:ty=1:=k.ty.resolve_right (fun e=>hp (Or.inl e))
   have hp0:p=0:=Classical.byContradiction fun e=>hp (Or.inr e)
   subst ht hp0
   refine CH k h2 (fun e=>hs ⟨rfl,Or.inr ⟨rfl,?_⟩,e⟩) h3 h4 h5
   show (69:UInt8) ∉ aX W P 1 0
   unfold aX bf
   rw[if_neg (by decide),if_neg (by simp),List.append_nil]
   intro hm
   rcases List.mem_append.1 hm with hm|hm
   ·exact absurd (k.wd 69 hm) (by decide)
   ·rcases List.mem_cons.1 hm with hm|hm
    ·exact absurd hm (by decide)
    ·exact absurd (k.pd 69 hm) (by decide)
 |logic k=>
  rename_i a
  refine vz (a:=a) (qh (by simpa using k)) ?_ rfl
  unfold cD
  rw[if_pos k]
 |chars k1 k2=>exact CG k2 h2 h3
 |word k=>
  rename_i a
  refine vz (a:=a) (mq k) ?_ rfl
  have:=rP a k
  unfold cD
  rw[if_neg (fun e=>e.elim this.1 this.2)]
 |sign k=>exact Fd k h2 h3
end Go.Abs
set_option linter.unusedVariables false
set_option linter.unusedSimpArgs false
set_option maxRecDepth 100000
namespace Go.Abs
open Go Go.Proofs
instance (t t2:Tok):Decidable (lz t t2):=by unfold lz;infer_instance
def apB (t t2:Tok):Prop:=lz t t2∨ ¬((ba false (t.text++t2.text)).e=0∧cQ false (t.text++t2.text)=[t,t2])
instance (t t2:Tok):Decidable (apB t t2):=by unfold apB;infer_instance
def dL:Tok→List Tok→List UInt8
 |_,[]=>[]
 |t,t2::l=>(if apB t t2 then [32]else [])++(t2.text++dL t2 l)
def bY:List Tok→List UInt8
 |[]=>[]
 |t::l=>t.text++dL t l
def cW:List Tok→List UInt8
 |[]=>[]
 |t::l=>t.text++(32::cW l)
theorem DW: ∀w∈bC,∀c,w=[c]→opC c none 0= .ok (⟨2,0,[c]⟩,1)∧opC c (some 32) 0= .ok (⟨2,0,[c]⟩,1):=by
 intro w hw c hc
 subst hc
 simp only[bC,List.mem_cons,List.not_mem_nil,or_false,List.cons.injEq,and_true,reduceCtorEq,and_false,false_or]at hw
 rcases hw with rfl|rfl|rfl|rfl|rfl|rfl|rfl|rfl|rfl|rfl<;>exact⟨rfl,rfl⟩
theorem u9 {t:Tok}{x r:List UInt8}(h:VT t)(hx:src t x)(hr:r=[]∨ ∃q,r=32::q):rd (x++r)= .ok (t,x.length):=by
 have hh:hd r=0∨hd r=32:=by
  rcases hr with rfl|⟨q,rfl⟩
  ·exact Or.inl rfl
  ·exact Or.inr rfl
 have hpar:bi (hd r)=false:=by rcases hh with h|h<;>rw[h]<;>rfl
 have hdig:ak (hd r)=false:=by rcases hh with h|h<;>rw[h]<;>rfl
 have h39:hd r≠39:=by rcases hh with h|h<;>rw[h]<;>decide
 have h46:hd r≠46:=by rcases hh with h|h<;>rw[h]<;>decide
 have hexp:(aL false r 0).2.2.2=false:=ot (by rcases hh with h|h<;>rw[h]<;>decide)
 cases h with
 |name k=>
  rename_i a
  have:x=a:=by
   refine eQ (t:=⟨0,0,a⟩) ?_ hx
   have hl:=(ee k).2.1
   show ak (hd a)=false
   cases hq:ak (hd a)with
   |false=>rfl
   |true=>rw[lw hq]at hl;cases hl
  rw[this];exact BW k hpar
 |int k1 k2=>rw[B1 k1 hx];exact F7 k1 k2 hdig (fun e=>absurd e h46) hexp
 |real k=>
  rename_i W P ty p
  obtain⟨W',k3,k4⟩:=oP k hx
  by_cases hp:ty=2∨p≠0
  ·have e:x++r=W'++46::(P++(bf ty p++([]++r))):=by rw[k4];simp
   rw[e,sQ k hp k3 (Or.inl rfl) hdig,k4]
   congr 2
   simp
   omega
  ·have ht:ty=1:=k.ty.resolve_right (fun e=>hp (Or.inl e))
   have hp0:p=0:=Classical.byContradiction fun e=>hp (Or.inr e)
   subst ht hp0
   have hT:bf 1 0=[]:=by unfold bf;rw[if_neg (by decide),if_neg (by simp)]
   rw[hT,List.append_nil]at k4
   have e:x++r=W'++46::(P++r):=by rw[k4];simp
   rw[e,sP k k3 (Or.inl rfl) hdig hexp,k4]
   congr 2
   simp
   omega
 |logic k=>
  rename_i a
  have:x=a:=eQ (t:=⟨1,5,a⟩) (by rcases k with rfl|rfl<;>rfl) hx
  rw[this,(rk (qh (by simpa using k))).1]
  unfold cD
  rw[if_pos k]
 |chars k1 k2=>
  rename_i u
  have:x=bh u:=eQ (t:=⟨1,6,bh u⟩) rfl hx
  rw[this];exact yO k2 h39
 |word k=>
  rename_i a
  have:x=a:=eQ (t:=⟨2,0,a⟩) ((by decide: ∀w∈b9,ak (hd w)=false) a k) hx
  have hn:=rP a k
  rw[this,(rk (mq k)).1]
  unfold cD
  rw[if_neg (fun e=>e.elim hn.1 hn.2)]
 |sign k=>
  rename_i a
  have:x=a:=eQ (t:=⟨2,0,a⟩) ((by decide: ∀w∈bC,ak (hd w)=false) a k) hx
  rw[this]
  rcases uf a k with⟨c,rfl,hc⟩|⟨c,d,rfl,hc,ho⟩
  ·rw[List.singleton_append,jV hc]
   have:=DW [c] k c rfl
   rcases hr with rfl|⟨q,rfl⟩
   ·exact this.1
   ·exact this.2
  ·rw[List.cons_append,jV hc]
   exact ho
theorem vH {u:List UInt8}{l:List Tok}(h:Lex u l):Lex (32::u) l:=by
 have hb:aP (32::u)=aP u+1:=by rw[aP,if_pos rfl]
 cases h with
 |nil h=>exact .nil (by rw[hb,List.drop_succ_cons];exact h)
 |cons h1 h2 h3 h4=>exact .cons (by rw[hb,List.drop_succ_cons];exact h1) h2 h3 h4
theorem oC {u:List UInt8}{t:Tok}{e:Nat}{l:List Tok}(h0:u≠[])(h32:hd u≠32)(hr:rd u= .ok (t,e))(hl:Lex (u.drop e) l):Lex u (t::l):=by
 have hb:aP u=0:=by
  cases u with
  |nil=>rfl
  |cons c r=>unfold aP;rw[if_neg (show c≠32 from h32)]
 exact .cons (by rw[hb];rfl) h0 hr hl
theorem Iu: ∀(l:List Tok) (t:Tok) (x:List UInt8),VT t→(∀u∈l,VT u)→src t x→Lex (x++dL t l) (t::l)
 |[],t,x,h,hl,hx=>by
  obtain⟨h0,h32⟩:=Gn h hx
  have hr:=u9 (r:=[]) h hx (Or.inl rfl)
  rw[List.append_nil]at hr
  show Lex (x++[]) [t]
  rw[List.append_nil]
  exact oC h0 h32 hr (.nil (by rw[List.drop_length];rfl))
 |t2::l,t,x,h,hl,hx=>by
  obtain⟨h0,h32⟩:=Gn h hx
  have h2:VT t2:=hl t2 (by simp)
  have hn0:x++dL t (t2::l)≠[]:=by simp[h0]
  have hn32:hd (x++dL t (t2::l))≠32:=by rw[cI h0];exact h32
  have hrest: ∀y,src t2 y→Lex (y++dL t2 l) (t2::l):=fun y hy=>Iu l t2 y h2 (fun u hu=>hl u (List.mem_cons_of_mem _ hu)) hy
  by_cases ha:apB t t2
  ·have e:dL t (t2::l)=32::(t2.text++dL t2 l):=by rw[dL,if_pos ha];rfl
   rw[e]at hn0 hn32 ⊢
   refine oC hn0 hn32 (u9 h hx (Or.inr ⟨_,rfl⟩)) ?_
   rw[iB]
   exact vH (hrest _ (Or.inl rfl))
  ·have e:dL t (t2::l)=t2.text++dL t2 l:=by rw[dL,if_neg ha];rfl
   rw[e]at hn0 hn32 ⊢
   have hsp: ¬lz t t2:=fun e=>ha (Or.inl e)
   have hsc:=Classical.byContradiction fun e=>ha (Or.inr e)
   have hlx:=(mK hsc.1).2.1
   rw[hsc.2]at hlx
   obtain⟨k,k1,k2,k3⟩:=Hb h h2 hsp hlx
   refine oC hn0 hn32 (k3 x _ hx) ?_
   rw[←List.drop_drop,iB]
   rcases Nat.lt_or_ge k 1 with h5|h5
   ·have:k=0:=by omega
    subst this
    exact hrest _ (Or.inl rfl)
   ·have:k=1:=by omega
    subst this
    obtain⟨q,hq⟩:=k2 rfl
    have e2:(t2.text++dL t2 l).drop 1=(46::q)++dL t2 l:=by rw[hq];rfl
    rw[e2]
    exact hrest _ (Or.inr ⟨hq,rfl⟩)
theorem Hh: ∀(l:List Tok),(∀u∈l,VT u)→Lex (bY l) l
 |[],_=> .nil rfl
 |t::l,h=>Iu l t t.text (h t (by simp)) (fun u hu=>h u (List.mem_cons_of_mem _ hu)) (Or.inl rfl)
theorem tJ: ∀(l:List Tok),(∀u∈l,VT u)→Lex (cW l) l
 |[],_=> .nil rfl
 |t::l,h=>by
  have ht:=h t (by simp)
  obtain⟨h0,h32⟩:=jC ht
  refine oC (by unfold cW;simp) (by unfold cW;rw[cI h0];exact h32) (u9 ht (Or.inl rfl) (Or.inr ⟨_,rfl⟩)) ?_
  show Lex ((t.text++(32::cW l)).drop t.text.length) l
  rw[iB]
  exact vH (tJ l fun u hu=>h u (List.mem_cons_of_mem _ hu))
def fX (b:UInt8):Prop:=32≤b.toNat∧b.toNat≤126
theorem AI: ∀i:Fin 256,bi (UInt8.ofNat i.val)=true→32≤(UInt8.ofNat i.val).toNat∧(UInt8.ofNat i.val).toNat≤126:=by decide
theorem JO {b:UInt8}(h:bi b=true):fX b:=by
 have:=AI ⟨b.toNat,b.toNat_lt⟩
 unfold fX
 simpa using this (by simpa using h)
theorem zf {s:List UInt8}(h:cg s=0): ∀b∈s,fX b:=by
 unfold cg at h
 split at h
 ·cases h
 ·split at h
  ·rename_i h2;exact jZ.1 h2
  ·cases h
theorem B3 {s:List UInt8}(h: ∀b∈s,fX b)(hl:s.length≤1320):cg s=0:=by
 unfold cg
 rw[if_neg (by omega),if_pos (jZ.2 h)]
instance (b:UInt8):Decidable (fX b):=by unfold fX;infer_instance
theorem zl {t:Tok}(h:VT t): ∀b∈t.text,fX b:=by
 cases h with
 |name k=>exact fun b hb=>JO ((ee k).2.2.1 b hb)
 |int k1 k2=>exact fun b hb=>q9 ((dQ k1).2.1 b hb)
 |real k=>exact zf (vX k)
 |logic k=>rcases k with rfl|rfl<;>decide
 |chars k1 k2=>exact jZ.1 (tq k1)
 |word k=>rename_i a;exact(by decide: ∀w∈b9,∀b∈w,fX b) a k
 |sign k=>rename_i a;exact(by decide: ∀w∈bC,∀b∈w,fX b) a k
theorem vF: ∀(l:List Tok) (t:Tok),(∀u∈l,VT u)→ ∀b∈dL t l,fX b
 |[],t,h,b,hb=>by cases hb
 |t2::l,t,h,b,hb=>by
  unfold dL at hb
  rcases List.mem_append.1 hb with hb|hb
  ·split at hb
   ·rw[List.mem_singleton.1 hb];decide
   ·cases hb
  ·rcases List.mem_append.1 hb with hb|hb
   ·exact zl (h t2 (by simp)) b hb
   ·exact vF l t2 (fun u hu=>h u (List.mem_cons_of_mem _ hu)) b hb
theorem He: ∀(l:List Tok),(∀u∈l,VT u)→ ∀b∈bY l,fX b
 |[],h,b,hb=>by cases hb
 |t::l,h,b,hb=>by
  rcases List.mem_append.1 hb with hb|hb
  ·exact zl (h t (by simp)) b hb
  ·exact vF l t (fun u hu=>h u (List.mem_cons_of_mem _ hu)) b hb
theorem uj: ∀(l:List Tok),(∀u∈l,VT u)→ ∀b∈cW l,fX b
 |[],h,b,hb=>by cases hb
 |t::l,h,b,hb=>by
  rcases List.mem_append.1 hb with hb|hb
  ·exact zl (h t (by simp)) b hb
  ·rcases List.mem_cons.1 hb with hb|hb
   ·rw[hb];decide
   ·exact uj l (fun u hu=>h u (List.mem_cons_of_mem _ hu)) b hb
theorem wa {l:List Tok}(h: ∀u∈l,VT u)(hn:l.length≤300)(hl:(bY l).length≤1320):(ba false (bY l)).e=0∧cQ false (bY l)=l:=
 rI (B3 (He l h) hl) (Hh l h) hn
theorem AQ {l:List Tok}(h: ∀u∈l,VT u)(hn:l.length≤300)(hl:(cW l).length≤1320):(ba false (cW l)).e=0∧cQ false (cW l)=l:=
 rI (B3 (uj l h) hl) (tJ l h) hn
theorem AV: ∀i:Fin 256,(aY (UInt8.ofNat i.val)=true→aY (upB (UInt8.ofNat i.val))=true)∧(bi (UInt8.ofNat i.val)=true→bi (upB (UInt8.ofNat i.val))=true)∧mL (upB (UInt8.ofNat i.val))=false:=by decide
theorem vf (c:UInt8):(aY c=true→aY (upB c)=true)∧(bi c=true→bi (upB c)=true)∧mL (upB c)=false:=by
 have:=AV ⟨c.toNat,c.toNat_lt⟩
 simpa using this
theorem F6 {q:UInt8}: ∀(n:Nat) (l:List UInt8),l.length≤n→ ∀t k,bN q l=some (t,k)→ ∀b∈t,b∈l:=by
 intro n
 induction n with
 |zero=>
  intro l hl t k h
  have:l=[]:=List.eq_nil_of_length_eq_zero (by omega)
  subst this
  cases h
 |succ n ih=>
  intro l hl t k h b hb
  cases l with
  |nil=>cases h
  |cons c r=>
   simp only[List.length_cons]at hl
   by_cases hc:c=q
   ·subst hc
    cases r with
    |nil=>
     rw[ft (fun d t h=>by cases h)]at h
     injection h with h
     injection h with h _
     rw[←h]at hb;cases hb
    |cons d r=>
     by_cases hd:d=c
     ·subst hd
      rw[gA]at h
      cases hq:bN d r with
      |none=>rw[hq]at h;cases h
      |some x=>
       rw[hq]at h
       simp only[Option.map_some,Option.some.injEq,Prod.mk.injEq]at h
       rw[←h.1]at hb
       simp only[List.length_cons]at hl
       rcases List.mem_cons.1 hb with hb|hb
       ·rw[hb];simp
       ·exact List.mem_cons_of_mem _ (List.mem_cons_of_mem _ (ih r (by omega) x.1 x.2 hq b hb))
     ·rw[ft (fun e t h=>by injection h with h _;rw[←h];exact hd)]at h
      injection h with h
      injection h with h _
      rw[←h]at hb;cases hb
   ·rw[iE hc]at h
    cases hq:bN q r with
    |none=>rw[hq]at h;cases h
    |some x=>
     rw[hq]at h
     simp only[Option.map_some,Option.some.injEq,Prod.mk.injEq]at h
     rw[←h.1]at hb
     rcases List.mem_cons.1 hb with hb|hb
     ·rw[hb];simp
     ·exact List.mem_cons_of_mem _ (ih r (by omega) x.1 x.2 hq b hb)
theorem Kj {d:List UInt8}(hd: ∀b∈d,ak b=true){t:Tok}(h:bS d= .ok t):VT t:=by
 unfold bS at h
 split at h
 ·cases h
 ·rename_i hh
  simp only[not_or]at hh
  injection h with h
  obtain⟨h1,h2,h3⟩:=hh
  have h0:d≠[]:=fun e=>h2 (by rw[e];rfl)
  have hN:bB d=(valD 0 d:Nat):=by unfold bB;rw[dm hd h0 (by omega)]
  rw[hN]at h3 h
  have hT:Lib.itoa ((valD 0 d:Nat):Int)=Lib.decDigits (valD 0 d):=lO
  rw[←h,hT]
  exact .int (vA.2 ⟨eF 10 _ (by omega) (by omega),gM _,xG _⟩) (by rw[iX];omega)
theorem rM {t w:List UInt8}(h:dO t=some w):w∈b9:=by
 unfold dO at h
 repeat' split at h
 all_goals first|(injection h with h;subst h;decide)|cases h
theorem L7 {c:UInt8}{d:Option UInt8}{q:Tok×Nat}(h:opC c d 0= .ok q):VT q.1:=by
 unfold opC at h
 split at h
 ·rename_i w hw
  injection h with h
  rw[←h]
  exact .word (rM hw)
 ·split at h
  ·rename_i hh
   injection h with h
   rw[←h]
   exact .sign (by simpa using hh.2)
  ·split at h
   ·rename_i w hw
    injection h with h
    rw[←h]
    exact .word (rM hw)
   ·split at h
    ·rename_i hh
     injection h with h
     rw[←h]
     exact .sign (by simpa using hh)
    ·cases h
theorem L8 {v:List UInt8}{t:Tok}{e:Nat}(hv: ∀b∈v,fX b)(h0:v≠[])(h32:hd v≠32)(h:rd v= .ok (t,e)):VT t:=by
 obtain⟨c,r,rfl⟩: ∃c r,v=c::r:=by
  cases v with
  |nil=>exact absurd rfl h0
  |cons c r=>exact⟨c,r,rfl⟩
 rw[df]at h32
 by_cases hl:aY c=true
 ·rw[qx (by rw[df];exact hl)]at h
  split at h
  ·cases h
  ·rename_i h31
   injection h with h
   injection h with h _
   rw[←h]
   have hp:=fQ (p:=bi) (c::r)
   have hcp:bi c=true:=by unfold bi;rw[hl];rfl
   have hc1:(c::r).takeWhile bi=c::r.takeWhile bi:=by rw[List.takeWhile_cons,if_pos hcp]
   refine .name ?_
   unfold jb wF
   simp only[Bool.and_eq_true,decide_eq_true_eq,Bool.not_eq_true',List.length_map]
   refine⟨⟨⟨by omega,?_⟩,?_⟩,?_⟩
   ·rw[hc1];exact(vf c).1 hl
   ·rw[List.all_eq_true]
    intro b hb
    obtain⟨x,hx,rfl⟩:=List.mem_map.1 hb
    exact(vf x).2.1 (hp x hx)
   ·rw[List.any_eq_false]
    intro b hb
    obtain⟨x,hx,rfl⟩:=List.mem_map.1 hb
    rw[(vf x).2.2];simp
 ·by_cases hn:ak c=true∨(c=46∧ak (hd r)=true)
  ·rw[gB (u:=c::r) hn]at h
   have hf:=AD (s:=c::r) (n:=0) (c:=c) rfl hn
   rw[h]at hf
   unfold bR at h
   simp only at h
   split at h
   ·split at h
    ·rename_i t' ht
     injection h with h
     injection h with h _
     rw[←h]
     exact Kj (fun b hb=>gC b hb) ht
    ·cases h
   ·obtain⟨k1,k2,_⟩:=iT h
    obtain⟨W,P,p,k3,k4⟩:=hf k1 k2
    obtain⟨a,b,x⟩:=t
    simp only at k1 k3 k4
    rw[k1,k4]
    exact .real k3
  ·simp only[not_or,not_and]at hn
   by_cases h46:c=46
   ·have hd2:ak (hd ((c::r).drop 1))=false:=by simpa using hn.2 h46
    rw[yP (by rw[df];exact h46) hd2]at h
    split at h
    ·rename_i hok
     injection h with h
     injection h with h _
     rw[←h]
     unfold cD
     split
     ·rename_i hh;exact .logic hh
     ·rename_i hh
      unfold dK at hok
      simp only[Bool.and_eq_true,Bool.or_eq_true,decide_eq_true_eq]at hok
      rcases hok.2 with(hok|hok)|hok
      ·exact .word (by simpa using hok)
      ·exact absurd (Or.inl hok) hh
      ·exact absurd (Or.inr hok) hh
    ·cases h
   ·by_cases hq:c=39∨c=34
    ·rw[oK (by rw[df];exact hq)]at h
     unfold dw at h
     split at h
     ·cases h
     ·rename_i u k hu
      split at h
      ·cases h
      ·injection h with h
       injection h with h _
       rw[←h]
       refine .chars (jZ.2 fun b hb=> ?_) (by omega)
       exact hv b (List.mem_cons_of_mem _ (F6 _ _ (Nat.le_refl _) u k hu b hb))
    ·have hs:mz c=true:=by
      unfold mz
      simp only[not_or]at hq
      have hc0:c≠0:=by
       rintro rfl
       have:=(hv 0 (by simp)).1
       exact absurd this (by decide)
      have hl':aY c=false:=by simpa using hl
      have hd':ak c=false:=by simpa using hn.1
      rw[hl',hd',decide_eq_false h46,decide_eq_false hq.1,decide_eq_false hq.2,decide_eq_false h32,decide_eq_false hc0]
      rfl
     rw[jV hs]at h
     exact L7 h
theorem KD: ∀{u:List UInt8} {l:List Tok},Lex u l→(∀b∈u,fX b)→ ∀t∈l,VT t:=by
 intro u l h
 induction h with
 |nil _=>intro _ t ht;cases ht
 |cons h1 h2 h3 h4 ih=>
  rename_i u v t e l
  intro hu x hx
  have hv: ∀b∈v,fX b:=fun b hb=>hu b (List.mem_of_mem_drop (by rw[h1];exact hb))
  rcases List.mem_cons.1 hx with rfl|hx
  ·refine L8 hv h2 ?_ h3
   cases hq:v with
   |nil=>exact absurd hq h2
   |cons c r=>exact ka u c r (by rw[h1,hq])
  ·exact ih (fun b hb=>hv b (List.mem_of_mem_drop hb)) x hx
theorem BZ {s:List UInt8}(h:(ba false s).e=0): ∀t∈cQ false s,VT t:=by
 obtain⟨h1,h2,_⟩:=mK h
 exact KD h2 (zf h1)
theorem zk {t:Tok}(h:VT t):t.text.length≤1320:=by
 cases h with
 |name k=>have:=(ee k).1;simp only;omega
 |int k1 k2=>have:=(dQ k1).1;simp only;omega
 |real k=>have:=(HX k).2.2.2;simp only;omega
 |logic k=>rcases k with rfl|rfl<;>decide
 |chars k1 k2=>
  rename_i u
  have:=m0 u
  have:=la u
  show (bh u).length≤1320
  omega
 |word k=>rename_i a;exact(by decide: ∀w∈b9,w.length≤1320) a k
 |sign k=>rename_i a;exact(by decide: ∀w∈bC,w.length≤1320) a k
theorem GA {t:Tok}(h:VT t):ii t.text=some t:=by
 have e:bY [t]=t.text:=by show t.text++[]=_;rw[List.append_nil]
 have:=wa (l:=[t]) (fun u hu=>by rw[List.mem_singleton.1 hu];exact h) (by simp) (by rw[e];exact zk h)
 rw[e]at this
 exact oO.2 this
theorem sV {t:Tok}:kD t=0↔VT t:=by
 constructor
 ·intro h
  obtain⟨a,b,x⟩:=t
  unfold kD at h
  simp only at h
  split at h
  ·rename_i ha
   subst ha
   unfold d4 at h
   split at h
   ·rename_i hb
    subst hb
    split at h
    ·rename_i hf
     split at h
     ·cases h
     ·exact .int hf (by omega)
    ·cases h
   ·split at h
    ·split at h
     ·rename_i hs
      obtain⟨h1,h2⟩:=oO.1 hs
      exact BZ h1 _ (by rw[h2];simp)
     ·cases h
    ·cases h
  ·split at h
   ·rename_i hk
    split at h
    ·rename_i hb
     subst hb
     split at h
     ·rename_i ha
      subst ha
      split at h
      ·rename_i hc;exact .name hc
      ·cases h
     ·rename_i ha
      have ha2:a=2:=hk.resolve_left ha
      subst ha2
      split at h
      ·rename_i hc
       rw[Bool.or_eq_true]at hc
       rcases hc with hc|hc
       ·exact .word (by simpa using hc)
       ·exact .sign (by simpa using hc)
      ·cases h
    ·cases h
   ·cases h
 ·intro h
  have hs:=GA h
  cases h with
  |name k=>
   show (if(0:Int)=1 then _ else if(0:Int)=0∨(0:Int)=2 then _ else _)=0
   rw[if_neg (by decide),if_pos (by decide)]
   simp[k]
  |int k1 k2=>
   show d4 0 _=0
   unfold d4
   rw[if_pos rfl,if_pos k1,if_neg (by simp only;omega)]
  |real k=>exact zB k
  |logic k=>
   show d4 5 _=0
   unfold d4
   rw[if_neg (by decide),if_pos (by decide),if_pos hs]
  |chars k1 k2=>exact zA k1 k2
  |word k=>
   show (if(2:Int)=1 then _ else if(2:Int)=0∨(2:Int)=2 then _ else _)=0
   rw[if_neg (by decide),if_pos (by decide)]
   simp[k]
  |sign k=>
   show (if(2:Int)=1 then _ else if(2:Int)=0∨(2:Int)=2 then _ else _)=0
   rw[if_neg (by decide),if_pos (by decide)]
   simp[k]
end Go.Abs
set_option linter.unusedVariables false
set_option linter.unusedSimpArgs false
set_option maxRecDepth 100000
namespace Go.Abs
open Go Go.Proofs
def u0:CV:=CV.v (.pointer none)
def bO (a:CV)(bs:List UInt8):Ob:= .cells [LV.cv a,LV.osl (bb bs)]
def bOK (b:Mu)(a:CV):Prop:=a=u0∨a=CV.ref b.length 0 0
section
variable {b:Mu}{a:CV}{bs:List UInt8}{r:Lam}
theorem iV {o:Ob}:aU (b++[o::r]) b.length 0=o:=by simp[aU]
theorem j0 {o o':Ob}:bp (b++[o::r]) b.length 0 o'=b++[o'::r]:=by simp[bp]
theorem Fp (ha:bOK b a):(ev E).call 116 [LV.cv (CV.tref b.length 0 103 2)] (b++[bO a bs::r])=some (.ret (.ltup []) (b++[bO (CV.ref b.length 0 0) bs::r])):=by
 refine dg (g:=gS 103) (by kernel_rfl) ?_
 rcases ha with rfl|rfl
 ·unfold gS
  simp only[aj,ac,ah]
  rw[iV]
  have e:b++[bO (CV.ref b.length 0 0) bs::r]=bp (b++[bO u0 bs::r]) b.length 0 (bO (CV.ref b.length 0 0) bs):=j0.symm
  rw[e]
  rfl
 ·unfold gS
  simp only[aj,ac,ah]
  rw[iV]
  unfold bO
  simp only
  have:(Nat.beq b.length b.length&&Nat.beq 0 0)=true:=by rw[Nat.beq_refl];rfl
  rw[this,aE]
  rfl
theorem IQ {x:LV}{l:List CV}:gw E.P 101 (.cells [x,LV.osl l]) 1=some (LV.osl l,.cells [x,LV.cv (CV.sl l)]):=by kernel_rfl
theorem GC {x y:LV}{l:List CV}:bv E.P 101 (.cells [x,y]) 1 (LV.osl l)=some (.cells [x,LV.osl l]):=by kernel_rfl
theorem L9 {x:LV}{l:List CV}:bA E.P 101 (.cells [x,LV.osl l]) 1=some (LV.cv (CV.sl l)):=by kernel_rfl
theorem ja {n:Nat}: ∀(l:List UInt8),bx n (bb l)=true
 |[]=>rfl
 |c::l=>by
  have e:bb (c::l)=CV.int .u8 (c.toNat:Int)::bb l:=rfl
  rw[e]
  simp only[bx]
  have:below n (CV.int .u8 (c.toNat:Int))=true:=rfl
  rw[this]
  exact ja l
theorem Lz {c:UInt8}(ha:bOK b a)(hs:bs.length≤1000000):(ev E).call 74 [LV.cv (CV.tref b.length 0 103 2),LV.int .u8 (c.toNat:Int)] (b++[bO a bs::r])=some (.ret (LV.cv (CV.v .nilIface)) (b++[bO (CV.ref b.length 0 0) (bs++[c])::r])):=by
 refine aS ?_
 have hc:[CV.int .u8 (c.toNat:Int)]=bb [c]:=rfl
 rw[MR,Fp ha]
 simp only[ad,aq,ac,aj,am,ae,af,ah,aE,cond_true,cond_false,Bool.not_true,Bool.not_false,ax,av,ao]
 rw[iV]
 unfold bO
 rw[IQ,ac]
 simp only[ad,aq,ac,aj,am,ae,af,ah,aE,cond_true,cond_false,Bool.not_true,Bool.not_false,ax,av,ao]
 rw[hc,rq (by simp;omega),aE,←mG,ja,aE,j0,iV,GC,ac,j0]
theorem LA {s:List UInt8}(ha:bOK b a)(hs:bs.length≤1000000)(hs2:s.length≤1000000):(ev E).call 75 [LV.cv (CV.tref b.length 0 103 2),LV.str s] (b++[bO a bs::r])=some (.ret (.ltup [LV.int .i64 (s.length:Int),LV.cv (CV.v .nilIface)]) (b++[bO (CV.ref b.length 0 0) (bs++s)::r])):=by
 refine aS ?_
 rw[MS,Fp ha]
 simp only[ad,aq,ac,aj,am,ae,af,ah,aE,cond_true,cond_false,Bool.not_true,Bool.not_false,ax,av,ao]
 rw[iV]
 unfold bO
 rw[IQ,ac]
 simp only[ad,aq,ac,aj,am,ae,af,ah,aE,cond_true,cond_false,Bool.not_true,Bool.not_false,ax,av,ao]
 have:((Nat.beq 1 1&&bK (List.length (bb bs)+List.length s))&&e7 1 (bb bs))=true:=by
  rw[j9,cJ (by omega),ip];rfl
 rw[this,aE,←mG,ja,aE,j0,iV,GC,ac,j0]
theorem LB:(ev E).call 76 [LV.cv (CV.tref b.length 0 103 2)] (b++[bO a bs::r])=some (.ret (LV.int .i64 (bs.length:Int)) (b++[bO a bs::r])):=by
 refine aS ?_
 rw[MT,iV]
 unfold bO
 rw[L9,ac]
 simp only[ad,aq,ac,aj,am,ae,af,ah,aE,cond_true,cond_false,Bool.not_true,Bool.not_false,ax,av,ao]
 rw[j9]
theorem LC:(ev E).call 77 [LV.cv (CV.tref b.length 0 103 2)] (b++[bO a bs::r])=some (.ret (LV.str bs) (b++[.dead::r])):=by
 refine dg (g:=nk 103) (by kernel_rfl) ?_
 unfold nk
 simp only[aj,ac,ah]
 rw[iV,j0]
 unfold bO
 simp only[ao,ac]
 rw[cN]
 rfl
theorem wI {α:Type}{k:Lam→Option α}:mN [(0,[3,1])] (bO a bs::r) k=k (bO a bs::r):=by
 unfold bO
 simp only[mN,aD,List.getElem?_cons_zero,eE,tn,ez,ao,ac,List.set_cons_zero]
theorem lV {x:Lam}:cZ (b++[x])=some (b,x):=by simp[cZ]
end
theorem xo {s:List UInt8}{c:UInt8}:Lib.contains s [c]=decide (c∈s):=by
 unfold Lib.contains
 rcases ic s c with⟨h1,h2⟩|⟨a,r,h1,h2,h3⟩
 ·rw[h1,decide_eq_false (fun h=>h2 c h rfl)];rfl
 ·rw[h3,decide_eq_true (by omega:(0:Int)≤(a.length:Int)),decide_eq_true (by rw[h1];simp)]
section
variable {μ:Mu}
theorem Md {t u:Tok}(h:t.text.length≤90000)(h2:u.text.length≤90000):nG (ev E) t.kind t.type t.text u.kind u.type u.text μ=some (jG (!decide ((ba false (t.text++u.text)).e=0∧cQ false (t.text++u.text)=[t,u])) μ):=by
 refine bc ?_
 obtain⟨s,hs⟩: ∃s,s=t.text++u.text:=⟨_,rfl⟩
 have hl:s.length≤200000:=by rw[hs];simp;omega
 rw[JB,cJ (by omega),aE,←hs,CX hl]
 simp only[ad,aq,ac,aj,am,ae,af,ah,aE,cond_true,cond_false,Bool.not_true,Bool.not_false,ax,av,ao,ez]
 by_cases he:(ba false s).e=0
 ·obtain⟨_,hn,hC⟩:=jW he
  have hT:cQ false s=(ba false s).toks:=by unfold cQ;rw[if_pos he]
  have h1:decide ((ba false s).e=0)=true:=by simp[he]
  rw[h1,Bool.not_true,cond_false]
  by_cases h2n:(ba false s).n=2
  ·have h3:decide (((ba false s).n:Int)=2)=true:=by simp[h2n]
   rw[h3,Bool.not_true,cond_false,hC,oA,ac,Bool.not_false,aE,p6,ac]
   simp only[ad,aq,ac,aj,am,ae,af,ah,aE,cond_true,cond_false,Bool.not_true,Bool.not_false,ax,av,ao,sB,p5]
   obtain⟨x,y,hxy⟩: ∃x y,(ba false s).toks=[x,y]:=by
    rw[h2n]at hn
    match hq:(ba false s).toks,hn with
    |[x,y],_=>exact⟨x,y,rfl⟩
   have e1:dT (ay [x,y]) (0:Int)=some x.cv:=rfl
   have e2:dT (ay [x,y]) (1:Int)=some y.cv:=rfl
   rw[hxy,e1,ac,bP,zd,e2]
   by_cases hx:x=t
   ·rw[decide_eq_true hx,Bool.not_true,cond_false,ac,bP,zd]
    by_cases hy:y=u
    ·rw[decide_eq_true hy,decide_eq_true ⟨he,by rw[hT,hxy,hx,hy]⟩]
    ·rw[decide_eq_false hy,decide_eq_false (fun e=>hy (by have:=e.2;rw[hT,hxy]at this;simp at this;exact this.2))]
   ·rw[decide_eq_false hx,decide_eq_false (fun e=>hx (by have:=e.2;rw[hT,hxy]at this;simp at this;exact this.1))]
    rfl
  ·have h3:decide (((ba false s).n:Int)=2)=false:=by simp;omega
   rw[h3,Bool.not_false,cond_true,decide_eq_false]
   ·rfl
   ·intro e
    have:=e.2
    rw[hT]at this
    rw[this]at hn
    exact h2n hn
 ·have h1:decide ((ba false s).e=0)=false:=by simp[he]
  rw[h1,Bool.not_false,cond_true,decide_eq_false (fun e=>he e.1)]
  rfl
theorem Ly {t u:Tok}(h:t.text.length≤90000)(h2:u.text.length≤90000):(ev E).call 73 [LV.cv t.cv,LV.cv u.cv] μ=some (.ret (LV.bool (decide (apB t u))) μ):=by
 refine aS ?_
 have hG:(opt (nG (ev E) t.kind t.type t.text u.kind u.type u.text μ) (kB (ev E) 73 H73 []))=some (.ret (LV.bool (!decide ((ba false (t.text++u.text)).e=0∧cQ false (t.text++u.text)=[t,u]))) μ):=by
  rw[Md h h2,ac,Dm]
 have hap: ∀(hs: ¬lz t u),decide (apB t u)= !decide ((ba false (t.text++u.text)).e=0∧cQ false (t.text++u.text)=[t,u]):=by
  intro hs
  by_cases hq:(ba false (t.text++u.text)).e=0∧cQ false (t.text++u.text)=[t,u]
  ·rw[decide_eq_true hq,decide_eq_false (fun e=>e.elim hs (fun e=>e hq))];rfl
  ·have:apB t u:=Or.inr hq
   rw[decide_eq_false hq,decide_eq_true this];rfl
 obtain⟨a,b,s⟩:=t
 obtain⟨a2,b2,s2⟩:=u
 show aJ E (ev E) 73 [LV.cv (CV.agg [CV.int .i64 a,CV.int .i64 b,CV.str s]),LV.cv (CV.agg [CV.int .i64 a2,CV.int .i64 b2,CV.str s2])] μ=_
 simp only at hG h h2
 rw[MQ]
 rw[Kl (by omega)]
 simp only[ad,aq,ac,aj,am,ae,af,ah,aE,cond_true,cond_false,Bool.not_true,Bool.not_false,ax,av,ao]
 rw[xo,hG]
 by_cases ha:a=1
 ·by_cases hE:s2=[69]∨s2=[68]
  ·have hEE: ∀(x:Option Out),cond (decide (s2=[69])) (some (.ret (LV.bool true) μ)) (cond (decide (s2=[68])) (some (.ret (LV.bool true) μ)) x)=some (.ret (LV.bool true) μ):=by
    intro x
    rcases hE with rfl|rfl<;>rfl
   rw[hEE,decide_eq_true ha,cond_true]
   by_cases hb:b=0
   ·have:apB ⟨a,b,s⟩ ⟨a2,b2,s2⟩:=Or.inl ⟨ha,Or.inl hb,hE⟩
    rw[decide_eq_true hb,cond_true,decide_eq_true this]
   ·rw[decide_eq_false hb,cond_false]
    by_cases hb1:b=1
    ·rw[decide_eq_true hb1,cond_true]
     by_cases h69:(69:UInt8)∈s
     ·rw[decide_eq_true h69,hap]
      ·rfl
      ·rintro⟨_,h|⟨_,h⟩,_⟩
       ·exact hb h
       ·exact h h69
     ·have:apB ⟨a,b,s⟩ ⟨a2,b2,s2⟩:=Or.inl ⟨ha,Or.inr ⟨hb1,h69⟩,hE⟩
      rw[decide_eq_false h69,decide_eq_true this]
      rfl
    ·rw[decide_eq_false hb1,cond_false,hap]
     rintro⟨_,h|⟨h,_⟩,_⟩
     ·exact hb h
     ·exact hb1 h
  ·have h1:decide (s2=[69])=false:=decide_eq_false (fun e=>hE (Or.inl e))
   have h2:decide (s2=[68])=false:=decide_eq_false (fun e=>hE (Or.inr e))
   rw[h1,h2,hap (fun e=>hE e.2.2)]
   cases decide (a=1)<;>cases decide (b=0)<;>cases decide (b=1)<;>cases decide ((69:UInt8)∈s)<;>rfl
 ·rw[decide_eq_false ha,cond_false,hap (fun e=>ha e.1)]
def jN:Nat→List Tok→Nat×Int
 |_,[]=>(0,0)
 |n,t::l=>if kD t=0 then jN (n+1) l else(n,kD t)
def mn (l:List Tok):Nat×Int:=if 300<l.length then(0,8)else jN 0 l
theorem nw {l:List Tok}{i:Nat}(h:i<l.length):dT (ay l) (i:Int)=some (l[i]).cv:=by
 rw[lZ]
 unfold ay
 rw[List.getElem?_map,List.getElem?_eq_getElem h]
 rfl
theorem eZ {l:List Tok}:(ay l).length=l.length:=by simp[ay]
def G6 {α:Type}(f:Int→Int→Mu→α)(g:Mu→α)(μ:Mu)(q:Nat×Int):α:=if q.2=0 then g μ else f (q.1:Int) q.2 μ
theorem KJ {l:List Tok}(hl:l.length≤100000)(hs: ∀t∈l,t.text.length≤200000): ∀(k i:Nat),i+k=l.length→Ch (ev E) (ay l) (l.length:Int) (i:Int) μ=some (G6 sq ss μ (jN i (l.drop i))):=by
 intro k
 induction k with
 |zero=>
  intro i hi
  refine dr ?_
  rw[BQ,yf (by omega),cond_false,List.drop_eq_nil_of_le (by omega)]
  rfl
 |succ k ih=>
  intro i hi
  refine dr ?_
  have hlt:i<l.length:=by omega
  have hd:l.drop i=l[i]::l.drop (i+1):=List.drop_eq_getElem_cons hlt
  rw[BQ,yg hlt,cond_true,nw hlt,ac,bP,show CV.agg [CV.int .i64 (l[i]).kind,CV.int .i64 (l[i]).type,CV.str (l[i]).text]=(l[i]).cv from rfl,IA (hs _ (List.getElem_mem hlt))]
  simp only[ad,aq,ac,aj,am,ae,af,ah,aE,cond_true,cond_false,Bool.not_true,Bool.not_false,ax,av,ao]
  rw[ut (by omega),ih (i+1) (by omega),hd,jN]
  by_cases he:kD l[i]=0
  ·rw[if_pos he,decide_eq_true he];rfl
  ·rw[if_neg he,decide_eq_false he,Bool.not_false,cond_true]
   unfold G6
   rw[if_neg he]
theorem Lx {l:List Tok}(hl:l.length≤100000)(hs: ∀t∈l,t.text.length≤200000):(ev E).call 72 [LV.cv (CV.sl (ay l))] μ=some (.ret (.ltup [LV.int .i64 ((mn l).1:Int),LV.int .i64 (mn l).2]) μ):=by
 refine aS ?_
 rw[MP,eZ]
 unfold mn
 by_cases h:300<l.length
 ·rw[if_pos h,decide_eq_true (by omega:(300:Int)<(l.length:Int))];rfl
 ·rw[if_neg h,decide_eq_false (by omega: ¬(300:Int)<(l.length:Int)),cond_false]
  have:=KJ (μ:=μ) hl hs l.length 0 (by omega)
  rw[List.drop_zero,show ((0:Nat):Int)=0 from rfl]at this
  have hG:Ik (ev E) (ay l) μ=some (nX ((jN 0 l).1:Int) (jN 0 l).2 μ):=by
   refine bc ?_
   rw[JA,eZ,this,ac]
   have key: ∀(n:Nat) (l:List Tok),(jN n l).2=0→(jN n l).1=0:=by
    intro n l
    induction l generalizing n with
    |nil=>intro _;rfl
    |cons t l ih=>
     unfold jN
     split
     ·exact ih (n+1)
     ·rename_i h;intro h2;exact absurd h2 h
   unfold G6
   by_cases h0:(jN 0 l).2=0
   ·rw[if_pos h0,h0,key 0 l h0];exact DE _ _
   ·rw[if_neg h0];exact DD _ _ _ _
  rw[hG,ac,Dl]
theorem Jb: ∀(n:Nat) (l:List Tok),(jN n l).2=0↔ ∀t∈l,VT t:=by
 intro n l
 induction l generalizing n with
 |nil=>simp[jN]
 |cons t l ih=>
  unfold jN
  by_cases h:kD t=0
  ·rw[if_pos h,ih (n+1)]
   simp[sV.1 h]
  ·rw[if_neg h]
   constructor
   ·intro h2;exact absurd h2 h
   ·intro h2;exact absurd (sV.2 (h2 t (by simp))) h
theorem yc {l:List Tok}:(mn l).2=0↔l.length≤300∧ ∀t∈l,VT t:=by
 unfold mn
 by_cases h:300<l.length
 ·rw[if_pos h]
  constructor
  ·intro h2;exact absurd h2 (by decide)
  ·intro h2;omega
 ·rw[if_neg h,Jb]
  constructor
  ·intro h2;exact⟨by omega,h2⟩
  ·intro h2;exact h2.2
end
end Go.Abs
set_option linter.unusedVariables false
set_option linter.unusedSimpArgs false
set_option maxRecDepth 100000
namespace Go.Abs
open Go Go.Proofs
def jA (l:List Tok)(i:Nat):List UInt8:=if i=0 then bY l else match l[i-1]? with|some t=>dL t (l.drop i)|none=>[]
def mR (l:List Tok)(i:Nat):Bool:=if i=0 then false else match l[i-1]?,l[i]? with|some t,some u=>decide (apB t u)|_,_=>false
def qD (x:Bool):List UInt8:=if x then [32]else []
theorem D1 {l:List Tok}{i:Nat}(h:i<l.length):jA l i=qD (mR l i)++(l[i].text++jA l (i+1)):=by
 have hd:l.drop i=l[i]::l.drop (i+1):=List.drop_eq_getElem_cons h
 have e1:jA l (i+1)=dL l[i] (l.drop (i+1)):=by
  unfold jA
  rw[if_neg (by omega),Nat.add_sub_cancel,List.getElem?_eq_getElem h]
 rw[e1]
 unfold jA mR
 by_cases h0:i=0
 ·subst h0
  rw[if_pos rfl,if_pos rfl]
  rw[List.drop_zero]at hd
  conv=>lhs;rw[hd]
  rfl
 ·rw[if_neg h0,if_neg h0]
  have h1:i-1<l.length:=by omega
  rw[List.getElem?_eq_getElem h1,List.getElem?_eq_getElem h,hd]
  simp only
  rw[dL]
  unfold qD
  by_cases ha:apB l[i-1] l[i]
  ·rw[if_pos ha,decide_eq_true ha,if_pos rfl]
  ·rw[if_neg ha,decide_eq_false ha,if_neg (by simp)]
theorem Gu {l:List Tok}:jA l l.length=[]:=by
 unfold jA
 by_cases h:l.length=0
 ·rw[if_pos h,List.eq_nil_of_length_eq_zero h];rfl
 ·rw[if_neg h,List.drop_length]
  split<;>rfl
section
variable {μ:Mu}{l:List Tok}
theorem zg {a:CV}{bs:List UInt8}{r:Lam}{n m:Int}(ha:bOK μ a):
  (true&&Nat.ble 1 (List.length (bO a bs::r))&&ew μ.length 1 [LV.cv (CV.sl (ay l)),LV.tloc 0 103 2,LV.cv (CV.sl (ay l)),LV.int .i64 n,LV.int .i64 m,LV.cv CV.undef]&&fH μ.length 1 (List.take 1 (bO a bs::r)))=true:=by
 have h1:qQ μ.length 1 (CV.sl (ay l))=true:=by show bx μ.length (ay l)=true;exact j6 l
 have h2:nB μ.length 1 (bO a bs)=true:=by
  unfold bO nB
  have h3:eR μ.length 1 (LV.cv a)=true:=by
   rcases ha with rfl|rfl
   ·rfl
   ·show (match Nat.blt μ.length μ.length with|true=>true|false=>Nat.blt 0 1)=true
    cases Nat.blt μ.length μ.length<;>rfl
  have h4:eR μ.length 1 (LV.osl (bb bs))=true:=by show bx μ.length (bb bs)=true;exact ja bs
  simp only[ew,h3,h4]
 have h5:Nat.ble 1 (List.length (bO a bs::r))=true:=by simp[Nat.ble_eq]
 rw[h5]
 simp only[Bool.true_and,List.take_succ_cons,List.take_zero,fH,h2,Bool.and_true]
 simp only[ew,eR,h1]
 rfl
theorem K9 {a:CV}{bs:List UInt8}{i:Nat}{t:Tok}(ha:bOK μ a)(hb:bs.length≤900000)(ht:t.text.length≤90000)(hi:i≤100000)(x:Bool){P:Option St→Prop}
  (hP: ∀a',bOK μ a'→P (wx (ev E) (ay l) (ay l) (l.length:Int) ((i+1:Nat):Int) [bO a' (bs++(qD x++t.text))] μ)):
  P (opt (nF (ev E) (ay l) (ay l) (l.length:Int) (i:Int) x [bO a bs,Ob.cells [LV.int .i64 t.kind,LV.int .i64 t.type,LV.str t.text]] μ) (kR (ev E) H29 [.seq (cA 29 [1,1,1,0,1,0,0,1,1,0,0,1,1]),.block 1,.seq (cA 29 [1,1,1,0,1,0,0,1,1,1])] [(6,0)] (cA 29 [1,1,1,0,1,0,0]))):=by
 have key: ∀a2 bs2,bOK μ a2→bs2.length≤900001→bs2=bs++qD x→
   P (opt (sY (ev E) (ay l) (ay l) (l.length:Int) (i:Int) [bO a2 bs2,Ob.cells [LV.int .i64 t.kind,LV.int .i64 t.type,LV.str t.text]] μ) (kR (ev E) H29 [.block 1,.seq (cA 29 [1,1,1,0,1,0,0,1,1,1])] [(6,0)] (cA 29 [1,1,1,0,1,0,0]))):=by
  intro a2 bs2 h2 hb2 he
  have hG:sY (ev E) (ay l) (ay l) (l.length:Int) (i:Int) [bO a2 bs2,Ob.cells [LV.int .i64 t.kind,LV.int .i64 t.type,LV.str t.text]] μ=
    some (pD (ay l) (ay l) (l.length:Int) (i:Int) [bO (CV.ref μ.length 0 0) (bs2++t.text),Ob.cells [LV.int .i64 t.kind,LV.int .i64 t.type,LV.str t.text]] μ):=by
   refine bc ?_
   unfold bO
   rw[HC]
   have:=LA (b:=μ) (a:=a2) (bs:=bs2) (r:=[Ob.cells [LV.int .i64 t.kind,LV.int .i64 t.type,LV.str t.text]]) (s:=t.text) h2 (by omega) (by omega)
   unfold bO at this
   rw[this]
   simp only[ad,aq,ac,aj,am,ae,af,ah,aE,cond_true,cond_false,Bool.not_true,Bool.not_false,ax,av,ao,ez,lV]
  rw[hG,ac,Ap,wI]
  have hG2:D9 (ev E) (ay l) (ay l) (l.length:Int) (i:Int) [bO (CV.ref μ.length 0 0) (bs2++t.text),Ob.cells [LV.int .i64 t.kind,LV.int .i64 t.type,LV.str t.text]] μ=
    some (pE (ay l) (ay l) (l.length:Int) ((i+1:Nat):Int) (CV.ref μ.length 0 0) (bb (bs2++t.text)) t.kind t.type t.text μ):=by
   refine bc ?_
   unfold bO
   rw[HD,ut (by omega)]
  have hu:=zg (l:=l) (a:=CV.ref μ.length 0 0) (bs:=bs2++t.text) (r:=[Ob.cells [LV.int .i64 t.kind,LV.int .i64 t.type,LV.str t.text]]) (n:=(l.length:Int)) (m:=((i+1:Nat):Int)) (μ:=μ) (Or.inr rfl)
  unfold bO at hu
  rw[hG2,ac,Aq,hu,aE]
  have:=hP (CV.ref μ.length 0 0) (Or.inr rfl)
  rw[←List.append_assoc,←he]at this
  exact this
 cases x with
 |false=>
  have hG:nF (ev E) (ay l) (ay l) (l.length:Int) (i:Int) false [bO a bs,Ob.cells [LV.int .i64 t.kind,LV.int .i64 t.type,LV.str t.text]] μ=
    some (r3 (ay l) (ay l) (l.length:Int) (i:Int) a (bb bs) t.kind t.type t.text μ):=by
   refine bc ?_
   unfold bO
   rw[BK]
   rfl
  rw[hG,ac,Di]
  exact key a bs ha (by omega) (by simp[qD])
 |true=>
  have hG:nF (ev E) (ay l) (ay l) (l.length:Int) (i:Int) true [bO a bs,Ob.cells [LV.int .i64 t.kind,LV.int .i64 t.type,LV.str t.text]] μ=
    some (r2 (ay l) (ay l) (l.length:Int) (i:Int) [bO (CV.ref μ.length 0 0) (bs++[32]),Ob.cells [LV.int .i64 t.kind,LV.int .i64 t.type,LV.str t.text]] μ):=by
   refine bc ?_
   unfold bO
   rw[BK,cond_true]
   have:=Lz (b:=μ) (a:=a) (bs:=bs) (r:=[Ob.cells [LV.int .i64 t.kind,LV.int .i64 t.type,LV.str t.text]]) (c:=32) ha (by omega)
   unfold bO at this
   rw[show LV.int .u8 (32:Int)=LV.int .u8 ((32:UInt8).toNat:Int)from rfl,this]
   simp only[ad,aq,ac,aj,am,ae,af,ah,aE,cond_true,cond_false,Bool.not_true,Bool.not_false,ax,av,ao,ez,lV]
  rw[hG,ac,Dh,wI]
  exact key _ _ (Or.inr rfl) (by simp;omega) rfl
theorem KI (hl:l.length≤400)(hs: ∀t∈l,t.text.length≤1320): ∀(k i:Nat) (a:CV) (bs:List UInt8),i+k=l.length→bOK μ a→bs.length≤i*1400→
  ∃a',bOK μ a'∧wx (ev E) (ay l) (ay l) (l.length:Int) (i:Int) [bO a bs] μ=some (lG a' (bb (bs++jA l i)) μ):=by
 intro k
 induction k with
 |zero=>
  intro i a bs hi ha hb
  refine⟨a,ha,?_⟩
  refine dr ?_
  unfold bO
  have:i=l.length:=by omega
  rw[BP,yf (by omega),cond_false,this,Gu,List.append_nil]
 |succ k ih=>
  intro i a bs hi ha hb
  have hlt:i<l.length:=by omega
  have ht:=hs _ (List.getElem_mem hlt)
  have hstep:=D1 hlt
  have hbl:(qD (mR l i)).length≤1:=by unfold qD;split<;>simp
  obtain⟨a',h1,h2⟩: ∃a',bOK μ a'∧opt (nF (ev E) (ay l) (ay l) (l.length:Int) (i:Int) (mR l i) [bO a bs,Ob.cells [LV.int .i64 (l[i]).kind,LV.int .i64 (l[i]).type,LV.str (l[i]).text]] μ) (kR (ev E) H29 [.seq (cA 29 [1,1,1,0,1,0,0,1,1,0,0,1,1]),.block 1,.seq (cA 29 [1,1,1,0,1,0,0,1,1,1])] [(6,0)] (cA 29 [1,1,1,0,1,0,0]))=some (lG a' (bb (bs++jA l i)) μ):=by
   refine K9 (P:=fun o=> ∃a',bOK μ a'∧o=some (lG a' (bb (bs++jA l i)) μ)) (t:=l[i]) ha (by omega) (by omega) (by omega) (mR l i) fun a' h=> ?_
   obtain⟨a2,k1,k2⟩:=ih (i+1) a' (bs++(qD (mR l i)++l[i].text)) (by omega) h (by simp;omega)
   refine⟨a2,k1,?_⟩
   rw[k2,hstep]
   simp
  refine⟨a',h1,?_⟩
  refine dr ?_
  rw[show (tw (ay l) (ay l) (l.length:Int) (i:Int) [bO a bs])=(tw (ay l) (ay l) (l.length:Int) (i:Int) [Ob.cells [LV.cv a,LV.osl (bb bs)]])from rfl,BP,yg hlt,cond_true,nw hlt,ac,bP]
  by_cases h0:i=0
  ·subst h0
   have:mR l 0=false:=rfl
   rw[this]at h2
   rw[show decide ((0:Int)<((0:Nat):Int))=false from rfl,cond_false]
   exact h2
  ·have h3:decide ((0:Int)<(i:Int))=true:=by simp;omega
   have h4:i-1<l.length:=by omega
   have hsj:mR l i=decide (apB l[i-1] l[i]):=by
    unfold mR
    rw[if_neg h0,List.getElem?_eq_getElem h4,List.getElem?_eq_getElem hlt]
   have ht1:=hs _ (List.getElem_mem h4)
   rw [h3, cond_true, Mi (by omega) (by omega), nw h4, ac, bP,
    show CV.agg [CV.int .i64 (l[i-1]).kind,CV.int .i64 (l[i-1]).type,CV.str (l[i-1]).text]=(l[i-1]).cv from rfl,
    show CV.agg [CV.int .i64 (l[i]).kind,CV.int .i64 (l[i]).type,CV.str (l[i]).text]=(l[i]).cv from rfl,Ly (by omega) (by omega),ad,lV,ac,af,ac,←hsj]
   have:=wI (a:=a) (bs:=bs) (r:=[Ob.cells [LV.int .i64 (l[i]).kind,LV.int .i64 (l[i]).type,LV.str (l[i]).text]]) (α:=St)
    (k:=fun lam26=>opt (nF (ev E) (ay l) (ay l) (l.length:Int) (i:Int) (mR l i) lam26 μ) (kR (ev E) H29 [.seq (cA 29 [1,1,1,0,1,0,0,1,1,0,0,1,1]),.block 1,.seq (cA 29 [1,1,1,0,1,0,0,1,1,1])] [(6,0)] (cA 29 [1,1,1,0,1,0,0])))
   unfold bO at this h2
   exact this.trans h2
def qb (l:List Tok):List UInt8×Int:=if(mn l).2=0 then(if 1320<(bY l).length then([],8)else(bY l,0))else([],(mn l).2)
theorem IC (hl:l.length≤100000)(hs: ∀t∈l,t.text.length≤1320):(ev E).call 29 [LV.cv (CV.sl (ay l))] μ=some (.ret (.ltup [LV.str (qb l).1,LV.int .i64 (qb l).2]) μ):=by
 refine aS ?_
 rw[MH,Lx hl (fun t ht=>by have:=hs t ht;omega)]
 simp only[ad,aq,ac,aj,am,ae,af,ah,aE,cond_true,cond_false,Bool.not_true,Bool.not_false,ax,av,ao]
 unfold qb
 by_cases he:(mn l).2=0
 ·have h3:=(yc.1 he).1
  rw[if_pos he,decide_eq_true he,Bool.not_true,cond_false]
  obtain⟨a',h1,h2⟩:=KI (μ:=μ) (l:=l) (by omega) hs l.length 0 u0 [] (by omega) (Or.inl rfl) (by simp)
  rw[List.nil_append,show jA l 0=bY l from rfl,show ((0:Nat):Int)=0 from rfl]at h2
  have hG:Ih (ev E) (ay l) μ=some (if 1320<(bY l).length then rY [] 8 a' (bb (bY l)) μ else rZ (bY l) 0 [.dead] μ):=by
   refine bc ?_
   have hu:=zg (l:=l) (a:=u0) (bs:=[]) (r:=[]) (n:=(l.length:Int)) (m:=0) (μ:=μ) (Or.inl rfl)
   unfold bO u0 at hu
   rw[Jx,eZ,show ([]:List CV)=bb []from rfl,hu,aE]
   rw[show List.take 1 [Ob.cells [LV.cv (CV.v (.pointer none)),LV.osl (bb [])]]=[bO u0 []]from rfl,h2,ac,DC]
   have h76:=LB (b:=μ) (a:=a') (bs:=bY l) (r:=[])
   have hob:=wI (a:=a') (bs:=bY l) (r:=[]) (α:=St) (k:=fun lam60=>opt (wW (ev E) (decide ((1320:Int)<((bY l).length:Int))) lam60 μ) (kS (ev E) H29 [.seq (cA 29 [1,1,1,1,1])] [(2,0),(3,0)]))
   unfold bO at h76 hob
   rw[h76,ad,lV,ac,am,ac,hob]
   have h13: ∀x:Bool,wW (ev E) x [Ob.cells [LV.cv a',LV.osl (bb (bY l))]] μ=some (cond x (pF [] 8 a' (bb (bY l)) μ) (pG a' (bb (bY l)) μ)):=by
    intro x
    refine bc ?_
    rw[HE]
    cases x<;>rfl
   rw[h13,ac]
   by_cases h:1320<(bY l).length
   ·rw[if_pos h,decide_eq_true (by omega:(1320:Int)<((bY l).length:Int)),cond_true,Ar]
   ·rw[if_neg h,decide_eq_false (by omega: ¬(1320:Int)<((bY l).length:Int)),cond_false,As]
    have h14:Ea (ev E) [Ob.cells [LV.cv a',LV.osl (bb (bY l))]] μ=some (pH (bY l) 0 [.dead] μ):=by
     refine bc ?_
     have h77:=LC (b:=μ) (a:=a') (bs:=bY l) (r:=[])
     unfold bO at h77
     rw[HF,h77,ad,lV,ac,ae,ac]
    rw[h14,ac,At]
  rw[hG,ac]
  by_cases h:1320<(bY l).length
  ·rw[if_pos h,if_pos h,Df]
  ·rw[if_neg h,if_neg h,Dg]
 ·rw[if_neg he,decide_eq_false he]
  rfl
end
end Go.Abs
set_option linter.unusedVariables false
set_option linter.unusedSimpArgs false
set_option maxRecDepth 100000
namespace Go.Abs
open Go Go.Proofs
theorem CR {p:Int}(h1: -999≤p)(h2:p≤999):(Lib.itoa p).length≤4:=by
 rcases gO p with⟨m,k1,k2⟩|⟨m,k0,k1,k2⟩
 ·have:=eF 3 m (by omega) (by omega)
  rw[k2];omega
 ·have:=eF 3 m (by omega) (by omega)
  rw[k2];simp;omega
theorem Cp {sg D:List UInt8}(hsg:sg=[]∨sg=[45])(hd: ∀b∈D,ak b=true)(h0:D≠[])(hl:D.length≤3): -999≤bB (sg++D)∧bB (sg++D)≤999:=by
 have hb:=(dP D 0 hd).2
 have h10:10^D.length≤10^3:=Nat.pow_le_pow_right (by omega) hl
 unfold bB
 rcases hsg with rfl|rfl
 ·rw[List.nil_append,dm hd h0 (by omega)]
  simp only
  omega
 ·rw[List.singleton_append,k9 hd h0 (by omega)]
  simp only
  omega
section
variable {v:List UInt8}
theorem Jd {n:Nat}(h:(aL false v n).2.2.2=true):(aL false v n).2.1=bF false v n++aM false v n∧aM false v n≠[]∧n+1+(aM false v n).length≤(aL false v n).2.2.1:=by
 have hx:cz false v n=69∨cz false v n=68:=by
  unfold aL at h
  split at h
  ·assumption
  ·cases h
 have e:aL false v n=(cz false v n,bF false v n++aM false v n,runE false ak v (expStart false v n),!decide (aM false v n=[])):=by unfold aL;rw[if_pos hx]
 rw[e]at h ⊢
 simp only at h ⊢
 refine⟨trivial,by simpa using h,?_⟩
 have hc:atC false v n≠0:=by
  intro h0
  unfold cz at hx
  rw[h0]at hx
  exact absurd hx (by decide)
 have h1:=th hc
 have h2:atE false v n≤expStart false v n:=by
  unfold expStart
  split
  ·exact lH
  ·exact Nat.le_refl _
 have h3:runE false ak v (expStart false v n)=expStart false v n+(aM false v n).length:=by unfold aM;rw[cu bW,ct bW]
 omega
theorem JJ:(aW false v 0).length+(bG false v 0).length+(if bL false v 0 then 1 else 0)≤numEnd false v 0:=by
 have h0:runE false ak v 0=(aW false v 0).length:=by unfold aW;rw[cu bW,ct bW,Nat.zero_add]
 unfold numEnd bG
 cases hd:bL false v 0 with
 |false=>
  simp only[Bool.false_eq_true,if_false,List.length_nil]
  omega
 |true=>
  simp only[if_true]
  have hc:atC false v (runE false ak v 0)≠0:=by
   intro h
   unfold bL at hd
   rw[h]at hd
   simp at hd
  have h1:=(th hc).1
  rw[h0]at h1 ⊢
  rw[cu bW,ct bW]
  omega
theorem K6 {t:Tok}{e:Nat}(h0:v≠[])(h32:hd v≠32)(hv: ∀b∈v,fX b)(h:rd v= .ok (t,e)):t.text.length≤4*e:=by
 obtain⟨c,r,rfl⟩: ∃c r,v=c::r:=by
  cases v with
  |nil=>exact absurd rfl h0
  |cons c r=>exact⟨c,r,rfl⟩
 rw[df]at h32
 by_cases hl:aY c=true
 ·rw[qx (by rw[df];exact hl)]at h
  split at h
  ·cases h
  ·injection h with h
   injection h with h h2
   rw[←h,←h2]
   show (((c::r).takeWhile bi).map upB).length≤_
   rw[List.length_map]
   omega
 ·by_cases hn:ak c=true∨(c=46∧ak (hd r)=true)
  ·rw[gB (u:=c::r) hn]at h
   obtain⟨v,hvv⟩: ∃v,v=c::r:=⟨_,rfl⟩
   rw[←hvv]at h
   have hend:=JJ (v:=v)
   unfold bR at h
   simp only at h
   split at h
   ·split at h
    ·rename_i t' ht
     injection h with h
     injection h with h h2
     subst h
     unfold bS at ht
     split at ht
     ·cases ht
     ·rename_i hh
      simp only[not_or]at hh
      injection ht with ht
      have hW0:aW false v 0≠[]:=fun e=>hh.2.1 (by rw[e];rfl)
      have hdg: ∀b∈aW false v 0,ak b=true:=gC
      have hN:bB (aW false v 0)=(valD 0 (aW false v 0):Nat):=by unfold bB;rw[dm hdg hW0 (by omega)]
      rw[←ht]
      show (Lib.itoa (bB (aW false v 0))).length≤4*e
      rw[hN,xY hdg hW0]
      have:=qL (aW false v 0)
      omega
    ·cases h
   ·rename_i hreal
    have he:=(iT h).2.2
    simp only at he
    unfold real at h
    split at h
    ·cases h
    ·rename_i hlong
     injection h with h
     injection h with h _
     have k1:=qJ (aW false v 0)
     have k2:=qK (bG false v 0)
     have k3:=li (cS (aW false v 0))
     have k4:=li (bD (bG false v 0))
     have htxt:(da (aW false v 0) (bG false v 0)).length≤(aW false v 0).length+(bG false v 0).length+3:=by
      unfold da
      simp only[List.length_append,List.length_cons,List.length_nil]
      omega
     cases hok:(aL false v (numEnd false v 0)).2.2.2 with
     |false=>
      have hdot:bL false v 0=true:=by
       cases hd:bL false v 0 with
       |true=>rfl
       |false=>rw[hd,hok]at hreal;exact absurd rfl hreal
      rw[hok]at he h
      rw[hdot]at hend
      simp only[Bool.false_eq_true,if_false,if_true]at he hend
      rw[←h]
      unfold cp dM
      simp only[Bool.false_eq_true,and_false,if_false,if_true]
      omega
     |true=>
      obtain⟨x1,x2,x3⟩:=Jd hok
      rw[hok]at he h hlong
      simp only[if_true]at he
      have hsg:bF false v (numEnd false v 0)=[]∨bF false v (numEnd false v 0)=[45]:=by
       unfold bF
       split
       ·exact Or.inr rfl
       ·exact Or.inl rfl
      have hdg: ∀b∈aM false v (numEnd false v 0),ak b=true:=gC
      have hl3:(aM false v (numEnd false v 0)).length≤3:=by
       unfold iU at hlong
       simp only[Bool.and_true,Bool.or_eq_true,decide_eq_true_eq,not_or]at hlong
       have h8:=hlong.2
       rw[x1]at h8
       rcases hsg with h9|h9
       ·rw[h9,List.nil_append,(ek hdg).1]at h8;omega
       ·rw[h9,(ek hdg).2]at h8;omega
      have hr:=Cp hsg hdg x2 hl3
      have hp:=CR hr.1 hr.2
      rw[←x1]at hp
      have hD1:1≤(aM false v (numEnd false v 0)).length:=by
       cases hq:aM false v (numEnd false v 0)with
       |nil=>exact absurd hq x2
       |cons c r=>simp
      have hend':(aW false v 0).length+(bG false v 0).length≤numEnd false v 0:=by omega
      rw[←h]
      have hT:(cp (da (aW false v 0) (bG false v 0)) (dM (aL false v (numEnd false v 0)).2.1 true) (aL false v (numEnd false v 0)).1 true).text.length≤(da (aW false v 0) (bG false v 0)).length+5:=by
       unfold cp dM
       simp only[if_true]
       split
       ·simp only[List.length_append,List.length_cons,List.length_nil];omega
       ·split
        ·simp only;omega
        ·simp only[List.length_append,List.length_cons,List.length_nil];omega
      omega
  ·simp only[not_or,not_and]at hn
   by_cases h46:c=46
   ·have hd2:ak (hd ((c::r).drop 1))=false:=by simpa using hn.2 h46
    rw[yP (by rw[df];exact h46) hd2]at h
    split at h
    ·rename_i hok
     injection h with h
     injection h with h h2
     have hc0:atC false (c::r) 0=46:=h46
     unfold dK at hok
     simp only[Bool.and_eq_true,Bool.or_eq_true,decide_eq_true_eq]at hok
     have hmem:ce false (c::r) 0∈eT:=by
      rcases hok.2 with(hok|hok)|hok
      ·exact mq (by simpa using hok)
      ·rw[hok];decide
      ·rw[hok];decide
     have:=(iq (ko _ hmem) (o4 hc0 rfl hok.1)).2.2.2
     rw[←h,←h2,this]
     have ht:(cD (ce false (c::r) 0)).text=ce false (c::r) 0:=by unfold cD;split<;>rfl
     rw[ht]
     omega
    ·cases h
   ·by_cases hq:c=39∨c=34
    ·rw[oK (by rw[df];exact hq)]at h
     unfold dw at h
     split at h
     ·cases h
     ·rename_i u k hu
      split at h
      ·cases h
      ·injection h with h
       injection h with h h2
       have hk:=kI _ _ (Nat.le_refl _) u k hu
       have hdb:=m0 u
       have hct:=la u
       rw[←h,←h2]
       show (bh u).length≤4*(0+1+k)
       omega
    ·have hs:mz c=true:=by
      unfold mz
      simp only[not_or]at hq
      have hc0:c≠0:=by
       rintro rfl
       have:=(hv 0 (by simp)).1
       exact absurd this (by decide)
      have hl':aY c=false:=by simpa using hl
      have hd':ak c=false:=by simpa using hn.1
      rw[hl',hd',decide_eq_false h46,decide_eq_false hq.1,decide_eq_false hq.2,decide_eq_false h32,decide_eq_false hc0]
      rfl
     rw[jV hs]at h
     have hw: ∀{x w:List UInt8},dO x=some w→w.length=4:=by
      intro x w h
      unfold dO at h
      repeat' split at h
      all_goals first|(injection h with h;subst h;rfl)|cases h
     unfold opC at h
     split at h
     ·rename_i w hw1
      injection h with h
      injection h with h h2
      rw[←h,←h2]
      have:=hw hw1
      simp only
      omega
     ·split at h
      ·injection h with h
       injection h with h h2
       rw[←h,←h2]
       simp
      ·split at h
       ·rename_i w hw1
        injection h with h
        injection h with h h2
        rw[←h,←h2]
        have:=hw hw1
        simp only
        omega
       ·split at h
        ·injection h with h
         injection h with h h2
         rw[←h,←h2]
         simp
        ·cases h
end
def oS:List Tok→Nat
 |[]=>0
 |t::l=>t.text.length+oS l
theorem Jk: ∀{u:List UInt8} {l:List Tok},Lex u l→(∀b∈u,fX b)→oS l≤4*u.length:=by
 intro u l h
 induction h with
 |nil _=>intro _;exact Nat.zero_le _
 |cons h1 h2 h3 h4 ih=>
  rename_i u v t e l
  intro hu
  have hv: ∀b∈v,fX b:=fun b hb=>hu b (List.mem_of_mem_drop (by rw[h1];exact hb))
  have h32: ∀c r,v=c::r→c≠32:=by rw[←h1];exact ka u
  have hh:hd v≠32:=by
   cases hq:v with
   |nil=>exact absurd hq h2
   |cons c r=>exact h32 c r hq
  have k1:=K6 h2 hh hv h3
  have k2:=yR h32 h2 h3
  have k3:=ih (fun b hb=>hv b (List.mem_of_mem_drop hb))
  have k4:v.length≤u.length:=by rw[←h1,List.length_drop];omega
  rw[List.length_drop]at k3
  unfold oS
  omega
theorem vE: ∀(l:List Tok) (t:Tok),(dL t l).length≤oS l+l.length
 |[],t=>Nat.le_refl _
 |t2::l,t=>by
  have:=vE l t2
  unfold dL oS
  simp only[List.length_append,List.length_cons]
  split<;>simp<;>omega
theorem xZ: ∀(l:List Tok),(bY l).length≤oS l+l.length
 |[]=>Nat.le_refl _
 |t::l=>by
  have:=vE l t
  unfold bY oS
  simp only[List.length_append,List.length_cons]
  omega
theorem ui: ∀(l:List Tok),(cW l).length=oS l+l.length
 |[]=>rfl
 |t::l=>by
  have:=ui l
  unfold cW oS
  simp only[List.length_append,List.length_cons]
  omega
theorem zM (l:List Tok):(bY l).length≤(cW l).length:=by rw[ui];exact xZ l
end Go.Abs
set_option linter.unusedVariables false
set_option linter.unusedSimpArgs false
set_option maxRecDepth 100000
namespace Go.Abs
open Go Go.Proofs
section
variable {μ:Mu}{l:List Tok}{s:List UInt8}
def xP (l:List Tok):Bool:= !(decide (60<l.length)&&decide (l.length≤300)||decide (302<l.length))&&l.all fun t=>decide (t.text.length≤130)
theorem KH (hl:l.length≤100000): ∀(k i:Nat),i+k=l.length→Cg (ev E) (ay l) (i:Int) μ=some (if(l.drop i).all (fun t=>decide (t.text.length≤130))then sn μ else sm false μ):=by
 intro k
 induction k with
 |zero=>
  intro i hi
  refine dr ?_
  rw[BO,eZ,yf (by omega),cond_false,List.drop_eq_nil_of_le (by omega)]
  rfl
 |succ k ih=>
  intro i hi
  refine dr ?_
  have hlt:i<l.length:=by omega
  have hd:l.drop i=l[i]::l.drop (i+1):=List.drop_eq_getElem_cons hlt
  rw[BO,eZ,yg hlt,cond_true,nw hlt,ac,bP,ut (by omega),ih (i+1) (by omega),hd,List.all_cons]
  by_cases h:(l[i]).text.length≤130
  ·rw[decide_eq_true h,decide_eq_false (by omega: ¬(130:Int)<((l[i]).text.length:Int)),cond_false,Bool.true_and]
  ·rw[decide_eq_false h,decide_eq_true (by omega:(130:Int)<((l[i]).text.length:Int)),cond_true,Bool.false_and,if_neg (by simp)]
theorem Lt (hl:l.length≤100000):(ev E).call 20 [LV.cv (CV.sl (ay l))] μ=some (.ret (LV.bool (xP l)) μ):=by
 refine aS ?_
 have hG:(opt (ww (ev E) (ay l) μ) (kB (ev E) 20 H20 []))=some (.ret (LV.bool (l.all fun t=>decide (t.text.length≤130))) μ):=by
  have:ww (ev E) (ay l) μ=some (nW (l.all fun t=>decide (t.text.length≤130)) μ):=by
   refine bc ?_
   have:=KH (μ:=μ) hl l.length 0 (by omega)
   rw[List.drop_zero,show ((0:Nat):Int)=0 from rfl]at this
   rw[Jw,this,ac]
   cases hq:l.all fun t=>decide (t.text.length≤130)with
   |true=>rw[if_pos rfl];exact DB _ _
   |false=>rw[if_neg (by simp)];exact DA _ _ _
  rw[this,ac,De]
 rw[MG,eZ,hG]
 unfold xP
 by_cases h1:60<l.length
 ·rw[decide_eq_true h1,decide_eq_true (by omega:(60:Int)<(l.length:Int)),cond_true]
  by_cases h2:l.length≤300
  ·rw[decide_eq_true h2,decide_eq_true (by omega:(l.length:Int)≤300)];rfl
  ·rw[decide_eq_false h2,decide_eq_false (by omega: ¬(l.length:Int)≤300),cond_false]
   by_cases h3:302<l.length
   ·rw[decide_eq_true h3,decide_eq_true (by omega:(302:Int)<(l.length:Int))];rfl
   ·rw[decide_eq_false h3,decide_eq_false (by omega: ¬(302:Int)<(l.length:Int)),cond_false];simp
 ·rw[decide_eq_false h1,decide_eq_false (by omega: ¬(60:Int)<(l.length:Int)),cond_false,decide_eq_false (by omega: ¬(302:Int)<(l.length:Int)),decide_eq_false (by omega: ¬302<l.length),cond_false]
  simp
theorem ID (hl:l.length≤100000):(ev E).call 30 [LV.cv (CV.sl (ay l))] μ=some (.ret (LV.osl (ay l)) μ):=by
 refine aS ?_
 have h1:ib (ay l)=true:=by cases l<;>rfl
 rw[MI,h1,show ([]:List CV)=ay []from rfl,te (by simp;omega)]
 rfl
theorem LH (hl:l.length≤100000)(hv: ∀t∈l,VT t): ∀(k i:Nat) (x:List UInt8),i+k=l.length→x.length≤i*1400→
  Ci (ev E) (ay l) x (i:Int) μ=some (su (ay l) (x++cW (l.drop i)) μ):=by
 intro k
 induction k with
 |zero=>
  intro i x hi hx
  refine dr ?_
  rw[BR,eZ,yf (by omega),cond_false,List.drop_eq_nil_of_le (by omega)]
  unfold cW
  rw[List.append_nil]
 |succ k ih=>
  intro i x hi hx
  refine dr ?_
  have hlt:i<l.length:=by omega
  have hd:l.drop i=l[i]::l.drop (i+1):=List.drop_eq_getElem_cons hlt
  have hvt:=hv _ (List.getElem_mem hlt)
  have hvl:=zk hvt
  have hG:Io (ev E) (ay l) x (i:Int) μ=some (se (ay l) (x++l[i].text++[32]) (i:Int) μ):=by
   refine bc ?_
   rw[JF,nw hlt,ac,bP,cJ (by omega),aE,cJ (by simp;omega),aE]
  rw[BR,eZ,yg hlt,cond_true,nw hlt,ac,bP,show CV.agg [CV.int .i64 (l[i]).kind,CV.int .i64 (l[i]).type,CV.str (l[i]).text]=(l[i]).cv from rfl,IA (by omega),sV.2 hvt]
  simp only[ad,aq,ac,aj,am,ae,af,ah,aE,cond_true,cond_false,Bool.not_true,Bool.not_false,ax,av,ao,decide_true]
  rw[hG,ac,Dv,ut (by omega),ih (i+1) _ (by omega) (by simp;omega),hd,cW]
  simp
theorem MB:(ev E).call 7 [LV.str s] []=some (.ret (LV.bool true) []):=by
 refine aS ?_
 rw[nf7,Lr]
 simp only[ad,aq,ac,aj,am,ae,af,ah,aE,cond_true,cond_false,Bool.not_true,Bool.not_false,ax,av,ao]
 have hG:J0 (ev E) s []=some (qX true []):=by
  refine bc ?_
  rw[KQ]
  by_cases h200:200<s.length
  ·rw[decide_eq_true (by omega:(200:Int)<(s.length:Int))];rfl
  ·rw[decide_eq_false (by omega: ¬(200:Int)<(s.length:Int)),cond_false]
   have hG5:J1 (ev E) s []=some (qY true []):=by
    refine bc ?_
    rw[KR,CT (by omega)]
    simp only[ad,aq,ac,aj,am,ae,af,ah,aE,cond_true,cond_false,Bool.not_true,Bool.not_false,ax,av,ao]
    rw[eZ]
    by_cases he:(ba false s).e=0
    ·rw[decide_eq_true he,Bool.not_true,cond_false]
     obtain⟨hte,hlx,h300⟩:=mK he
     have hvt:=BZ he
     have hn:(ba false s).n=(cQ false s).length:=by
      have:=(jW he).2.1
      unfold cQ
      rw[if_pos he];exact this
     obtain⟨l,hl⟩: ∃l,l=cQ false s:=⟨_,rfl⟩
     rw[←hl]at hlx h300 hvt hn ⊢
     have hsum:=Jk hlx (zf hte)
     have hG12:xP l=true→In (ev E) (ay l) []=some (fy true []):=by
      intro hf
      have h60:l.length≤60:=by
       unfold xP at hf
       simp only[Bool.and_eq_true,Bool.not_eq_true',Bool.or_eq_false_iff,Bool.and_eq_false_iff,decide_eq_false_iff_not]at hf
       omega
      have hj:=xZ l
      have hjl:(bY l).length≤1320:=by omega
      have hJ:qb l=(bY l,0):=by
       unfold qb
       rw[if_pos (yc.2 ⟨h300,hvt⟩),if_neg (by omega)]
      obtain⟨s1,s2⟩:=wa hvt h300 hjl
      refine bc ?_
      have hlp:=LH (μ:=[]) (l:=l) (by omega) hvt l.length 0 [] (by omega) (by simp)
      rw[List.drop_zero,show ((0:Nat):Int)=0 from rfl,List.nil_append]at hlp
      have hvl: ∀t∈l,t.text.length≤1320:=fun t ht=>zk (hvt t ht)
      rw[JE,hlp,ac,DF,ID (by omega)]
      simp only[ad,aq,ac,aj,am,ae,af,ah,aE,cond_true,cond_false,Bool.not_true,Bool.not_false,ax,av,ao]
      rw[IC (by omega) hvl,hJ]
      simp only[ad,aq,ac,aj,am,ae,af,ah,aE,cond_true,cond_false,Bool.not_true,Bool.not_false,ax,av,ao]
      rw[CT (by omega),s1,s2]
      simp only[ad,aq,ac,aj,am,ae,af,ah,aE,cond_true,cond_false,Bool.not_true,Bool.not_false,ax,av,ao]
      rw[ID (by omega)]
      simp only[ad,aq,ac,aj,am,ae,af,ah,aE,cond_true,cond_false,Bool.not_true,Bool.not_false,ax,av,ao]
      rw[IC (by omega) hvl,hJ]
      simp only[ad,aq,ac,aj,am,ae,af,ah,aE,cond_true,cond_false,Bool.not_true,Bool.not_false,ax,av,ao]
      rw[IB (by omega)]
      simp only[ad,aq,ac,aj,am,ae,af,ah,aE,cond_true,cond_false,Bool.not_true,Bool.not_false,ax,av,ao,decide_true]
      have hle:=zM l
      rw[decide_eq_false (by omega: ¬((cW l).length:Int)<((bY l).length:Int)),cond_false]
      have hG24:Ip (ev E) (ay l) (cW l) []=some (n0 true []):=by
       refine bc ?_
       rw[JG]
       by_cases hsp:1320<(cW l).length
       ·rw[decide_eq_true (by omega:(1320:Int)<((cW l).length:Int))];rfl
       ·rw[decide_eq_false (by omega: ¬(1320:Int)<((cW l).length:Int)),cond_false]
        obtain⟨p1,p2⟩:=AQ hvt h300 (by omega)
        have hG26:Iq (ev E) (ay l) (cW l) []=some (n8 true []):=by
         refine bc ?_
         rw[JH,CT (by omega),p1,p2]
         simp only[ad,aq,ac,aj,am,ae,af,ah,aE,cond_true,cond_false,Bool.not_true,Bool.not_false,ax,av,ao,decide_true]
         rw[IB (by omega)]
         simp only[ad,aq,ac,aj,am,ae,af,ah,aE,cond_true,cond_false,Bool.not_true,Bool.not_false,ax,av,ao,decide_true]
        rw[hG26,ac,Dx]
      rw[hG24,ac,Dw]
     have hG10:Im (ev E) (ay l) []=some (nZ true []):=by
      refine bc ?_
      rw[JD,Lt (by omega)]
      simp only[ad,aq,ac,aj,am,ae,af,ah,aE,cond_true,cond_false,Bool.not_true,Bool.not_false,ax,av,ao]
      cases hf:xP l with
      |false=>rfl
      |true=>rw[Bool.not_true,cond_false,hG12 hf,ac,Du]
     have hG8:J2 (ev E) (ay l) ((ba false s).n:Int) []=some (qZ true []):=by
      refine bc ?_
      rw[KS,eZ,hn,decide_eq_true rfl,Bool.not_true,cond_false,hG10,ac,Dt]
     rw[hG8,ac,FP]
    ·have hT:cQ false s=[]:=by unfold cQ;rw[if_neg he]
     rw[decide_eq_false he,Bool.not_false,cond_true,hT]
     rfl
   rw[hG5,ac,FO]
 rw[hG,ac,FN]
end
end Go.Abs
set_option linter.unusedVariables false
set_option linter.unusedSimpArgs false
set_option maxRecDepth 100000
set_option maxHeartbeats 1000000
namespace Go.Abs
open Go Go.Proofs Go.RowKit
theorem sizeBuilder:(Tryz.prog.info? 103).map (·.size)=some 2:=by kernel_rfl
theorem liesBuilder:liesAt Tryz.prog Tryz.prog.depth 103 (2 / Tryz.prog.cellsOf 103) 0 103 1=true:=by kernel_rfl
theorem EC (b:Nat)(w:World)(h0:w.cell? ⟨b,0,none⟩=some (.pointer (some ⟨b,0,none⟩))):
  Calls Tryz.prog 116 #[.pointer (some ⟨b,0,none⟩)] w fun e w'=>e= .returned (.tuple #[])∧w'=w:=by
 obtain⟨j,hj,_⟩:=Option.map_eq_some_iff.1 sizeBuilder
 go_enter Tryz.func116,Tryz.ntmps116
 go_wp2
 rw[Lib.run_neq_ptr_same w _ Tryz.underlying100 hj]
 go_wp2
 go_end0
 exact⟨rfl,rfl⟩
theorem Cz (b:Nat)(w:World)(h0:w.cell? ⟨b,0,none⟩=some (.pointer none))(hsh:w.shape? b=some (103,2))(hfz:w.frozen? ⟨b,0,none⟩=false):
  Calls Tryz.prog 116 #[.pointer (some ⟨b,0,none⟩)] w fun e w'=>e= .returned (.tuple #[])∧w'=w.setCell ⟨b,0,none⟩ (.pointer (some ⟨b,0,none⟩)):=by
 obtain⟨j,hj,hjs⟩:=Option.map_eq_some_iff.1 sizeBuilder
 go_enter Tryz.func116,Tryz.ntmps116
 go_wp2
 rw[Lib.run_to_unsafe w ⟨b,0,none⟩ Tryz.underlying100 Tryz.underlying159 hj (by rw[hjs];decide) hsh (Nat.zero_lt_succ 1)]
 simp only[Result.andThen]
 rw[Oper.upon_value]
 go_wp2
 rw[run_callFunc_extern Tryz.func146 (by kernel_rfl) (by kernel_rfl) (by kernel_rfl) (e:=Extern.AbiNoEscape.same) (by kernel_rfl)]
 rw[Lib.run_noEscape]
 simp only[Result.andThen]
 rw[Oper.upon_value]
 go_wp2
 rw[Lib.run_from_unsafe w ⟨b,0,none⟩ Tryz.underlying159 Tryz.underlying100 hj hsh liesBuilder]
 simp only[Result.andThen]
 rw[Oper.upon_value]
 go_wp2
 go_end0
 exact⟨rfl,rfl⟩
theorem Gs {b:Nat}{w:World}{p:Option Addr}{v:Value}(h0:w.cell? ⟨b,0,none⟩=some v)(hfz:w.frozen? ⟨b,0,none⟩=false):(storeVar 100 ⟨b,0,none⟩ (.pointer p)).run Tryz.prog w= .ok () (w.setCell ⟨b,0,none⟩ (.pointer p)):=by
 simp[storeVar,Tryz.sizeOf100,storeCells,Value.cells,run_store_pointer,stored,h0,hfz,Addr.add]
section
variable {W0 w:World}{G:Gh}{L:Nat}{μ:Mu}
theorem Rel.ret {args:List LV}{cargs:Array Value}{v:LV}{cv:Value}(R:Rel G L (aI args) μ cargs w)(hv:LVR G w L 0 v cv)(hno: ∀b,¬aB v cv b):
  Rel G L (aI [v]) μ #[cv] w∧(∀b,au G w (aI [v]) μ #[cv] b→au G w (aI args) μ cargs b):=by
 have hob: ∀lev i,az (μ++[(aI [v]).lam]) lev i=az (μ++[(aI args).lam]) lev i:=fun _ _=>rfl
 have hown: ∀q b,ar G w (aI [v]).fr #[cv] (μ++[(aI [v]).lam]) q b→ar G w (aI args).fr cargs (μ++[(aI args).lam]) q b:=by
  intro q b h
  cases q with
  |fr t=>
   exfalso
   simp only[ar,bT]at h
   cases t with
   |zero=>exact hno b h
   |succ t=>simp[aB]at h
  |ob lev i k=>exact h
 refine⟨⟨R.lev,fun t=> ?_,R.lam,R.mu,R.inj,fun q q' b h h'=>R.own q q' b (hown q b h) (hown q' b h'),fun q b lev i h h'=>R.apart q b lev i (hown q b h) h',R.nlt,R.nL,R.ngt⟩,fun b h=> ?_⟩
 ·rw[bT]
  cases t with
  |zero=>exact hv
  |succ t=>simp[LVR,VR]
 ·rcases h with⟨q,h⟩|h
  ·exact .inl ⟨q,hown q b h⟩
  ·exact .inr h
structure Bld (G:Gh) (L:Nat) (μ:Mu) (w:World) (lev i:Nat) (a b:LV) (cur:Array Value) (fz:Nat×Nat):Prop where
 lt:lev<L
 live:aU μ lev i= .cells [a,b]
 heap:w.heap[G.β lev i]? =some (.cells cur 103 fz)
 size:cur.size=2
 unf:dF cur fz
 O:G.O (G.β lev i)=0
 va:LVR (G.below lev) w lev 0 a (cur.getD 0 undef)
 vb:LVR (G.below lev) w lev 0 b (cur.getD 1 undef)
theorem Eu {args:List LV}{cargs:Array Value}{lev i:Nat}{a b:LV}(R:Rel G L (aI args) μ cargs w)(ha:args[0]? =some (.cv (.tref lev i 103 2)))(hob:aU μ lev i= .cells [a,b]):
  ∃cur fz,Bld G L μ w lev i a b cur fz∧i<G.n lev∧cargs.getD 0 undef= .pointer (some ⟨G.β lev i,0,none⟩):=by
 have h0:=R.fr 0
 rw[bT,ha]at h0
 simp only[Option.getD_some,LVR,VR]at h0
 obtain⟨h1,h2,cur,fz,h3,h4⟩:=h0
 have hlt:lev<L:=by
  rcases Nat.lt_trichotomy lev L with h|h|h
  ·exact h
  ·subst h
   have:=R.nL
   simp[aI]at this
   omega
  ·have:=R.ngt lev h
   omega
 have hm:=R.mu lev i hlt
 rw[hob]at hm
 simp only[ObR]at hm
 obtain⟨cur2,e2,fz2,k1,k2,k3,k4,k5⟩:=hm
 rw[h3]at k1
 obtain⟨rfl,rfl,rfl⟩:=(Obj.cells.injEq ..).mp (Option.some.inj k1)
 exact⟨cur,fz,⟨hlt,hob,h3,h4,k2,k3,k5 0 a rfl,k5 1 b rfl⟩,h1,h2⟩
theorem xd {cargs:Array Value}{v:Value}(hs:cargs.size=1)(hv:cargs.getD 0 undef=v):cargs= #[v]:=by
 apply Array.ext
 ·simpa using hs
 ·intro j h1 h2
  have:j=0:=by omega
  subst this
  rw[Array.getD_eq_getD_getElem?,Array.getElem?_eq_getElem h1]at hv
  simpa using hv
theorem FU {lev i:Nat}{o:Ob}{args:List LV}(hlt:lev<μ.length)(h:aU μ lev i=o):az (μ++[(aI args).lam]) lev i=o:=by
 rw[←h]
 exact bn hlt
theorem Lq {b:Nat}{cur:Array Value}{e:TypeId}{fz:Nat×Nat}{k:Nat}(h:w.heap[b]? =some (.cells cur e fz))(hk:k<cur.size):w.cell? ⟨b,k,none⟩=some (cur.getD k undef):=by
 unfold World.cell?
 simp only[h]
 simp[Array.getD_eq_getD_getElem?,hk]
theorem Je {b:Nat}{cur:Array Value}{e:TypeId}{fz:Nat×Nat}{k:Nat}(h:w.heap[b]? =some (.cells cur e fz))(hk:k<cur.size)(hu:dF cur fz):w.frozen? ⟨b,k,none⟩=false:=by
 have:=hu k hk
 unfold World.frozen?
 simp only[h]
 simp
 omega
theorem yG {args:List LV}{out:Out}(h:gS 103 args μ=some out):cj E.P W0 116 args μ out:=by
 unfold gS at h
 obtain⟨q,hq,h2⟩:=bm h
 clear h
 obtain⟨u,hu,h⟩:=bm h2
 clear h2
 have hargs:args=[q.1]:=by rw[dx hq,fC hu]
 rw[hargs]
 clear hargs hq hu
 obtain⟨x,y⟩:=q
 simp only at h ⊢
 split at h<;>try(cases h;done)
 rename_i lev i t n
 obtain⟨hg,h2⟩:=de h
 clear h
 rw[Bool.and_eq_true]at hg
 have ht:=Nat.eq_of_beq_eq_true hg.1
 have hn:=Nat.eq_of_beq_eq_true hg.2
 subst ht hn
 refine⟨cH Tryz.func116 rfl (by kernel_rfl),fun G w cargs hs R hkn=> ?_⟩
 split at h2<;>try(cases h2;done)
 rename_i a b hob
 obtain⟨cur,fz,B,hin,hc0⟩:=Eu R rfl hob
 have hca:=xd (by simpa using hs) hc0
 have hlt:lev<μ.length:=B.lt
 have hcell:=Lq (w:=w) B.heap (k:=0) (by rw[B.size];omega)
 split at h2<;>try(cases h2;done)
 ·
  injection h2 with h
  subst h
  have hva:=B.va
  simp only[LVR,VR]at hva
  rw[hva]at hcell
  have hfr:=Je (w:=w) B.heap (k:=0) (by rw[B.size];omega) B.unf
  have hsh:w.shape? (G.β lev i)=some (103,2):=by
   unfold World.shape?
   simp only[B.heap,B.size]
  have hset:bp μ lev i (.cells [.cv (.ref lev i 0),b])++[(aI [LV.cv (CV.tref lev i 103 2)]).lam]=bp (μ++[(aI [LV.cv (CV.tref lev i 103 2)]).lam]) lev i (.cells [.cv (.ref lev i 0),b]):=(kG hlt).symm
  obtain⟨w',hrun,R2,E2⟩:=R.writeOb (P:=Tryz.prog) (t:=100) (s1:=aI [LV.cv (CV.tref lev i 103 2)]) (μ1:=bp μ lev i (.cells [.cv (.ref lev i 0),b])) (lev:=lev) (i:=i) (off:=0) (v:= .cv (.ref lev i 0)) (cv:= .pointer (some ⟨G.β lev i,0,none⟩)) (o':= .cells [.cv (.ref lev i 0),b])
   (Ext.refl G w fun b h=>h) (FU hlt hob) (by kernel_rfl)
   ⟨fun e=>absurd e (Nat.ne_of_lt hlt),fun _=>by simp only[LVR,VR,Gh.below];exact⟨by simpa using hin,trivial⟩⟩
   (fun b hb=>by simp[aB]at hb) rfl rfl rfl gu.1 hset
  have hw:w'=w.setCell ⟨G.β lev i,0,none⟩ (.pointer (some ⟨G.β lev i,0,none⟩)):=by
   have h1:=Gs (p:=some ⟨G.β lev i,0,none⟩) hcell hfr
   rw[hrun]at h1
   injection h1
  rw[hca]
  refine(Cz (G.β lev i) w hcell hsh hfr).mono fun e w2 ⟨h1,h2⟩=> ?_
  subst h1
  rw[←hw]at h2
  subst h2
  obtain⟨R3,hT⟩:=R2.ret (v:= .ltup []) (cv:= .tuple #[]) ⟨#[],rfl,rfl⟩ (fun b h=>by simp[aB]at h)
  exact⟨G.O,R3,hca▸E2.weaken (fun _ h=>h) fun b hb=>hT b hb⟩
 ·
  rename_i l j
  obtain⟨hg2,h3⟩:=de h2
  rw[Bool.and_eq_true]at hg2
  have hl:=Nat.eq_of_beq_eq_true hg2.1
  have hj:=Nat.eq_of_beq_eq_true hg2.2
  subst hl hj
  injection h3 with h
  subst h
  have hva:=B.va
  simp only[LVR,VR]at hva
  rw[hva.2]at hcell
  rw[hca]
  refine(EC (G.β l j) w hcell).mono fun e w2 ⟨h1,h2⟩=> ?_
  subst h1 h2
  obtain⟨R3,hT⟩:=R.ret (v:= .ltup []) (cv:= .tuple #[]) ⟨#[],rfl,rfl⟩ (fun b h=>by simp[aB]at h)
  exact⟨G.O,R3,Ext.refl G _ (hca▸hT)⟩
end
theorem AT {b g cap:Nat}{l:List UInt8}{p:Value}{fzb:Nat×Nat}{cur:Array Value}{w:World}(hbk:w.heap[b]? =some (.cells #[p,.slice (some ⟨g,0,none⟩) l.length cap] 103 fzb))(h0:l≠[])(hg:w.heap[g]? =some (.cells cur 5 (0,0)))
  (hnc:l.length≤cap) (hcm:cap≤maxLen) (hsz:l.length≤cur.size) (hcells: ∀(j:Nat) x,l[j]? =some x→w.cell? ⟨g,j,none⟩=some (.int .u8 x.toNat)):
  Calls Tryz.prog 77 #[.pointer (some ⟨b,0,none⟩)] w fun e w'=>e= .returned (.string ⟨l.toArray⟩)∧w'=w.drew.freeze ⟨g,0,none⟩ l.length:=by
 have hl0:l.length≠0:=by simpa using h0
 have c1:w.drew.cell? ⟨b,1,none⟩=some (.slice (some ⟨g,0,none⟩) l.length cap):=by
  have:w.drew.heap[b]? =some (.cells #[p,.slice (some ⟨g,0,none⟩) l.length cap] 103 fzb):=hbk
  rw[Lib.cell_of_heap this];rfl
 have hSD:(Builtin.unsafeSliceData_ #[101] 137 #[.slice (some ⟨g,0,none⟩) l.length cap]).run Tryz.prog w.drew= .ok (.pointer (some ⟨g,0,none⟩)) w.drew:=
  Lib.run_unsafeSliceData_row _ _ _ _ _ _ (by omega)
 have hUS:(Builtin.unsafeString_ #[137,3] 9 #[.pointer (some ⟨g,0,none⟩),.int .i64 l.length]).run Tryz.prog w.drew= .ok (.string ⟨l.toArray⟩) (w.drew.freeze ⟨g,0,none⟩ l.length):=by
  refine Lib.run_unsafeString_row w.drew 137 3 9 5 Tryz.underlying137 Tryz.Builder_Extra_169.cellsByte g cur.size (by have hg':w.drew.heap[g]? =some (.cells cur 5 (0,0)):=hg;simp[World.shape?,hg']) l h0 (by omega) (by unfold maxLen at hcm;omega) ?_
  intro j x hx
  have:=hcells j x hx
  by_cases hj:j=0
  ·subst hj;simpa[Addr.add]using this
  ·simpa[Addr.add,hj]using this
 go_enter Tryz.func77,Tryz.ntmps77
 go_wp2
 go_region
 all_goals(go_wp2;go_ret;exact⟨rfl,rfl⟩)
theorem D0 {b:Nat}{p:Value}{fzb:Nat×Nat}{w:World}(hbk:w.heap[b]? =some (.cells #[p,.slice none 0 0] 103 fzb)):
  Calls Tryz.prog 77 #[.pointer (some ⟨b,0,none⟩)] w fun e w'=>e= .returned (.string ⟨#[]⟩)∧w'=w.drew:=by
 have hUS: ∀W q,(Builtin.unsafeString_ #[137,3] 9 #[.pointer q,.int .i64 0]).run Tryz.prog W= .ok (.string .empty) W:=fun W q=>Lib.run_unsafeString_none W _ _ _ q
 have c1:w.drew.cell? ⟨b,1,none⟩=some (.slice none 0 0):=by
  have:w.drew.heap[b]? =some (.cells #[p,.slice none 0 0] 103 fzb):=hbk
  rw[Lib.cell_of_heap this];rfl
 have hSD:(Builtin.unsafeSliceData_ #[101] 137 #[.slice none 0 0]).run Tryz.prog w.drew= .ok (.pointer none) w.drew:=rfl
 go_enter Tryz.func77,Tryz.ntmps77
 go_wp2
 go_region
 all_goals(go_wp2;go_ret;exact⟨rfl,rfl⟩)
theorem AU {b g:Nat}{p:Value}{fzb:Nat×Nat}{cur:Array Value}{e:TypeId}{w:World}(hbk:w.heap[b]? =some (.cells #[p,.slice (some ⟨g,0,none⟩) 0 0] 103 fzb))(hg:w.heap[g]? =some (.cells cur e (0,0))):
  Calls Tryz.prog 77 #[.pointer (some ⟨b,0,none⟩)] w fun e w'=>e= .returned (.string ⟨#[]⟩)∧w'=w.drew.alloc (.view ⟨g,0,none⟩ 5):=by
 have hUS: ∀W q,(Builtin.unsafeString_ #[137,3] 9 #[.pointer q,.int .i64 0]).run Tryz.prog W= .ok (.string .empty) W:=fun W q=>Lib.run_unsafeString_none W _ _ _ q
 have hlt:b<w.heap.size:=by
  rcases Nat.lt_or_ge b w.heap.size with h'|h'
  ·exact h'
  ·simp[Array.getElem?_eq_none h']at hbk
 have c1:w.drew.cell? ⟨b,1,none⟩=some (.slice (some ⟨g,0,none⟩) 0 0):=by
  have:w.drew.heap[b]? =some (.cells #[p,.slice (some ⟨g,0,none⟩) 0 0] 103 fzb):=hbk
  rw[Lib.cell_of_heap this];rfl
 have hSD:(Builtin.unsafeSliceData_ #[101] 137 #[.slice (some ⟨g,0,none⟩) 0 0]).run Tryz.prog w.drew= .ok (.pointer (some ⟨w.drew.heap.size,0,none⟩)) (w.drew.alloc (.view ⟨g,0,none⟩ 5)):=
  Lib.run_unsafeSliceData_zero w.drew _ _ 5 Tryz.underlying137 ⟨g,0,none⟩ 0 (e,cur.size) (by have hg':w.drew.heap[g]? =some (.cells cur e (0,0)):=hg;simp[World.shape?,hg'])
 have c2:(w.drew.alloc (.view ⟨g,0,none⟩ 5)).cell? ⟨b,1,none⟩=some (.slice (some ⟨g,0,none⟩) 0 0):=by
  have:(w.drew.alloc (.view ⟨g,0,none⟩ 5)).heap[b]? =_:=(Lib.alloc_old w.drew _ b hlt).trans hbk
  rw[Lib.cell_of_heap this];rfl
 have c3:(w.alloc (.view ⟨g,0,none⟩ 5)).drew.cell? ⟨b,1,none⟩=some (.slice (some ⟨g,0,none⟩) 0 0):=c2
 have c0:w.cell? ⟨b,1,none⟩=some (.slice (some ⟨g,0,none⟩) 0 0):=c1
 go_enter Tryz.func77,Tryz.ntmps77
 go_wp2
 go_region
 all_goals(go_wp2;go_ret;exact⟨rfl,rfl⟩)
section
variable {W0 w:World}{G:Gh}{L:Nat}{μ:Mu}
theorem qA {args:List LV}{cargs:Array Value}{μ':Mu}{G':Gh}{w':World}{T:Nat→Prop}{v:LV}{cv:Value}(R1:Rel G L (aI args) μ' cargs w)(hT1: ∀b,au G w (aI args) μ' cargs b→T b)(hle:Le G w G' w')
  (hfr: ∀b,au G w (aI args) μ' cargs b→w'.heap[b]? =w.heap[b]? ∧G'.O b=G.O b) (hG:G'=G.withO G'.O) (ho:w'.os=w.os) (ht:w'.tape=w.tape) (hu:w'.output=w.output) (hs:w.heap.size≤w'.heap.size)
  (hkeep: ∀b,b<w.heap.size→ ¬T b→w'.heap[b]? =w.heap[b]? ∧G'.O b=G.O b) (hv:LVR G' w' L 0 v cv) (hno: ∀b,¬aB v cv b):ex L T G w (.ret v μ') (.returned cv) w':=by
 have hβ: ∀lev i,G'.β lev i=G.β lev i∧G'.sz lev i=G.sz lev i:=by intro lev i;rw[hG];exact⟨rfl,rfl⟩
 have hn:G'.n=G.n:=by rw[hG];rfl
 obtain⟨R2,hO2⟩:=R1.frame hle hfr (fun lev i _=>hβ lev i) hn
 obtain⟨R3,hT3⟩:=R2.ret hv hno
 have htouch: ∀b,au G' w' (aI [v]) μ' #[cv] b→T b:=by
  intro b hb
  rcases hT3 b hb with⟨q,h⟩|⟨lev,i,h,e⟩
  ·exact hT1 b (.inl ⟨q,hO2 q b h⟩)
  ·exact hT1 b (.inr ⟨lev,i,h,by rw[←(hβ lev i).1];exact e⟩)
 refine⟨G'.O,?_,?_⟩
 ·rw[←hG];exact R3
 ·rw[←hG]
  exact⟨hle,ho,ht,hu,hs,hkeep,fun b hb=> .inl (htouch b hb),fun l _=>⟨fun i=>hβ l i,by rw[hn]⟩⟩
theorem zK {g n:Nat}{cur:Array Value}{e:TypeId}{fz:Nat×Nat}(hg:w.heap[g]? =some (.cells cur e fz)):
  (∀b,b≠g→(w.drew.freeze ⟨g,0,none⟩ n).heap[b]? =w.heap[b]?)∧(∃fz',(w.drew.freeze ⟨g,0,none⟩ n).heap[g]? =some (.cells cur e fz'))∧(w.drew.freeze ⟨g,0,none⟩ n).os=w.os∧(w.drew.freeze ⟨g,0,none⟩ n).tape=w.tape∧(w.drew.freeze ⟨g,0,none⟩ n).output=w.output∧(w.drew.freeze ⟨g,0,none⟩ n).heap.size=w.heap.size:=by
 have hg':w.drew.heap[g]? =some (.cells cur e fz):=hg
 unfold World.freeze
 split
 ·exact⟨fun b _=>rfl,⟨fz,hg'⟩,rfl,rfl,rfl,rfl⟩
 ·refine⟨fun b hb=> ?_,?_,rfl,rfl,rfl,by simp⟩
  ·simp only[Array.getElem?_modify]
   rw[if_neg (fun e=>hb e.symm)]
   rfl
  ·simp only[Array.getElem?_modify,if_true,hg',Option.map_some]
   exact⟨_,rfl⟩
def lI (l:List UInt8):List CV:=l.map fun(b:UInt8)=>CV.v (.int .u8 (b.toNat:Int))
theorem Ev {l:List UInt8}:(lI l).length=l.length:=by simp[lI]
theorem oX: ∀{xs:List CV} {s:List UInt8},bg xs=some s→xs=lI s
 |[],s,h=>by injection h with h;subst h;rfl
 |x::r,s,h=>by
  unfold bg at h
  split at h
  ·rename_i heq;cases heq
  ·rename_i n r' heq
   injection heq with e1 e2
   subst e1 e2
   split at h
   ·rename_i hd
    obtain⟨l,hl,h2⟩:=bm h
    injection h2 with h2
    subst h2
    have ih:=oX hl
    rw[ih]
    simp only[Bool.and_eq_true,decide_eq_true_eq]at hd
    have hn:((UInt8.ofNat n.toNat).toNat:Int)=n:=by
     rw[UInt8.toNat_ofNat_of_lt' (by show n.toNat<256;omega)]
     omega
    show _=CV.v (.int .u8 ((UInt8.ofNat n.toNat).toNat:Int))::lI l
    rw[hn]
   ·cases h
  ·cases h
theorem FV {args:List LV}{out:Out}(h:nk 103 args μ=some out):cj E.P W0 77 args μ out:=by
 unfold nk at h
 obtain⟨q,hq,h2⟩:=bm h
 clear h
 obtain⟨u,hu,h⟩:=bm h2
 clear h2
 have hargs:args=[q.1]:=by rw[dx hq,fC hu]
 rw[hargs]
 clear hargs hq hu
 obtain⟨x,y⟩:=q
 simp only at h ⊢
 split at h<;>try(cases h;done)
 rename_i lev i t n
 obtain⟨hg,h2⟩:=de h
 clear h
 rw[Bool.and_eq_true]at hg
 have ht:=Nat.eq_of_beq_eq_true hg.1
 have hn:=Nat.eq_of_beq_eq_true hg.2
 subst ht hn
 refine⟨cH Tryz.func77 rfl (by kernel_rfl),fun G w cargs hs R hkn=> ?_⟩
 split at h2<;>try(cases h2;done)
 rename_i a b hob
 obtain⟨xs,hxs,h3⟩:=bm h2
 obtain⟨s,hbs,h4⟩:=bm h3
 injection h4 with h4
 subst h4
 obtain⟨cur,fz,B,hin,hc0⟩:=Eu R rfl hob
 have hca:=xd (by simpa using hs) hc0
 have hlt:lev<μ.length:=B.lt
 have hot:=FU (args:=[LV.cv (CV.tref lev i 103 2)]) hlt hob
 have hl:aG (az (μ++[(aI [LV.cv (CV.tref lev i 103 2)]).lam]) lev i):=by rw[hot];trivial
 obtain⟨R1,_,hT,hO1,hO2,hlv⟩:=R.setOb (s1:=aI [LV.cv (CV.tref lev i 103 2)]) (μ1:=bp μ lev i .dead) (o':= .dead) (cur':=cur) hl B.heap rfl rfl rfl rfl gu.1 (kG hlt).symm
  (fun G' w' _ _ _=>⟨fun _=>trivial,fun _=>trivial⟩) (fun cs' k b h=>by cases h)
 rw[setRow_self w _ cur 103 fz B.heap]at R1 hT hO1 hO2
 have hT1: ∀b,au G w (aI [LV.cv (CV.tref lev i 103 2)]) (bp μ lev i .dead) cargs b→au G w (aI [LV.cv (CV.tref lev i 103 2)]) μ cargs b:=by
  intro b hb
  rcases hT b hb with h|⟨cs',k,h,_⟩
  ·exact h
  ·cases h
 obtain⟨hown,howns⟩:=gN hxs B.vb
 have hp1: ∃p,w.heap[G.β lev i]? =some (.cells #[p,cur.getD 1 undef] 103 fz):=by
  refine⟨cur.getD 0 undef,?_⟩
  rw[B.heap]
  congr 2
  apply Array.ext
  ·exact B.size
  ·intro j h1 h2
   have hsz:=B.size
   have:j=0∨j=1:=by omega
   rcases this with rfl|rfl
   ·simp[Array.getD_eq_getD_getElem?,hsz]
   ·simp[Array.getD_eq_getD_getElem?,hsz]
 obtain⟨p,hbk⟩:=hp1
 rw[hca]
 rcases hown with⟨hx0,hv0⟩|⟨g,cap,cur2,e2,sz,hv,hg,h1,h2',h3',h4,h5,h6,h7,h8⟩
 ·
  subst hx0
  have hs0:s=[]:=by injection hbs with h;exact h.symm
  subst hs0
  rw[hv0]at hbk
  refine(D0 hbk).mono fun e w2 ⟨k1,k2⟩=> ?_
  subst k1 k2
  rw[←hca]
  exact qA R1 hT1 ⟨fun _ _ _ h hb=>⟨h,hb⟩,fun _ _ h=>⟨h,rfl,rfl⟩,fun _ _ _ h hc=>⟨h,hc⟩,fun b cur e fz h=>⟨cur,fz,h,rfl⟩⟩ (fun b _=>⟨rfl,rfl⟩) rfl rfl rfl rfl (Nat.le_refl _) (fun b _ _=>⟨rfl,rfl⟩) rfl (fun b h=>by simp[aB]at h)
 ·rw[hv]at hbk
  have hob1:ar G w (aI [LV.cv (CV.tref lev i 103 2)]).fr cargs (μ++[(aI [LV.cv (CV.tref lev i 103 2)]).lam]) (.ob lev i 1) g:=by
   simp only[ar,hot]
   refine⟨cur,103,fz,B.heap,?_⟩
   have:=howns g (by rw[hv];simp[aB])
   exact this
  have hTg:au G w (aI [LV.cv (CV.tref lev i 103 2)]) μ cargs g:= .inl ⟨_,hob1⟩
  have hne: ∀b,au G w (aI [LV.cv (CV.tref lev i 103 2)]) (bp μ lev i .dead) cargs b→b≠g:=by
   intro b hb e
   subst e
   rcases hb with⟨q,hb⟩|⟨l,j,hb,e⟩
   ·rcases hO1 q b hb with h|⟨cs',k,h,_⟩
    ·have hq:=R.own q (.ob lev i 1) b h hob1
     subst hq
     obtain⟨cs',h,_⟩:=hO2 1 b hb
     cases h
    ·cases h
   ·exact R.apart (.ob lev i 1) b l j hob1 (hlv l j hb) e
  by_cases hx0:xs=[]
  ·subst hx0
   have hs0:s=[]:=by injection hbs with h;exact h.symm
   subst hs0
   have hcap:=h5 rfl
   subst hcap
   refine(AU hbk hg).mono fun e w2 ⟨k1,k2⟩=> ?_
   subst k1 k2
   rw[←hca]
   have hle:=nJ (G:=G) (w:=w.drew) (.view ⟨g,0,none⟩ 5) 0
   have hle2:Le G w (G.setO w.drew.heap.size 0) (w.drew.alloc (.view ⟨g,0,none⟩ 5)):=⟨hle.map,hle.ref,hle.imm,hle.blk⟩
   have hold: ∀b,b<w.heap.size→(w.drew.alloc (.view ⟨g,0,none⟩ 5)).heap[b]? =w.heap[b]? ∧(G.setO w.drew.heap.size 0).O b=G.O b:=fun b hb=>⟨heap_alloc_old w.drew _ hb,cB (Nat.ne_of_lt hb)⟩
   exact qA R1 hT1 hle2 (fun b hb=>hold b (R1.touch_lt hb)) rfl rfl rfl rfl (by simp[World.alloc]) (fun b hb _=>hold b hb) rfl (fun b h=>by simp[aB]at h)
  ·have he:e2=5:=h8 (by rw[hbs];rfl) hx0
   subst he
   have hxs2:=oX hbs
   have hlen:xs.length=s.length:=by rw[hxs2,Ev]
   have hs0:s≠[]:=by
    intro h
    rw[h]at hlen
    exact hx0 (List.eq_nil_of_length_eq_zero hlen)
   have hsz1:sz=1:=by
    cases xs with
    |nil=>exact absurd rfl hx0
    |cons c r=>
     have:=h4 c List.mem_cons_self
     have hc:c∈lI s:=by rw[←hxs2];exact List.mem_cons_self
     obtain⟨b,_,rfl⟩:=List.mem_map.1 hc
     exact this.symm
   subst hsz1
   obtain⟨olds,ho1,ho2⟩:=qU h6 h4
   have hcells: ∀(j:Nat) x,s[j]? =some x→w.cell? ⟨g,j,none⟩=some (.int .u8 x.toNat):=by
    intro j x hx
    have hflat:xs.flatMap CV.cells=lI s:=by rw[hxs2];exact ol s
    rw[hflat]at ho1
    obtain⟨v,hv1,hv2⟩:=(dy ho1).2 j (CV.int .u8 (x.toNat:Int)) (by simp[lI,hx])
    simp only[VR]at hv2
    subst hv2
    have:=(ho2 j _ hv1).1
    simpa using this
   rw[hlen]at hbk h1
   refine(AT hbk hs0 hg h1 h2' (by omega) hcells).mono fun e w2 ⟨k1,k2⟩=> ?_
   subst k1 k2
   rw[←hca]
   obtain⟨f1,⟨fz',f2⟩,f3,f4,f5,f6⟩:=zK (n:=s.length) hg
   have hle:Le G w G (w.drew.freeze ⟨g,0,none⟩ s.length):=by
    refine⟨fun b es clk h hb=> ?_,fun _ _ h=>⟨h,rfl,rfl⟩,fun b off v h hc=>⟨h,?_⟩,fun b c e fz h=> ?_⟩
    ·have hb2:b≠g:=fun e=>by subst e;rw[hg]at hb;cases hb
     exact⟨h,by rw[f1 b hb2];exact hb⟩
    ·rw[←hc]
     unfold World.cell?
     by_cases hb2:b=g
     ·subst hb2
      simp only[f2,hg]
     ·simp only[f1 b hb2]
    ·by_cases hb2:b=g
     ·subst hb2
      rw[hg]at h
      obtain⟨rfl,rfl,rfl⟩:=(Obj.cells.injEq ..).mp (Option.some.inj h)
      exact⟨_,fz',f2,rfl⟩
     ·exact⟨c,fz,by rw[f1 b hb2];exact h,rfl⟩
   exact qA R1 hT1 hle (fun b hb=>⟨f1 b (hne b hb),rfl⟩) rfl f3 f4 f5 (by rw[f6];exact Nat.le_refl _) (fun b _ hn=>⟨f1 b (fun e=>hn (e▸hTg)),rfl⟩) rfl (fun b h=>by simp[aB]at h)
theorem HS (B:Base W0):qW E W0:=by
 intro f g hf args μ out h
 have hp:DR f=some g:=hf
 unfold DR at hp
 split at hp<;>first|(cases hp;done)|skip
 all_goals(injection hp with hp;subst hp)
 all_goals first
  |exact DK B h
  |exact JL B h
  |exact JM B h
  |exact yH B h
  |exact wo B h
  |exact AH B h
  |exact yI B h
  |exact HJ B h
  |exact AF B h
  |exact KV B h
  |exact AG B h
  |exact wn B h
  |exact tW h
  |exact yG h
  |exact FV h
theorem KO:E.P.follows .mixedOrders=true:=by kernel_rfl
end
end Go.Abs
set_option linter.unusedVariables false
set_option linter.unusedSimpArgs false
set_option maxRecDepth 100000
namespace Go.Proofs.YtfcjjankfjaapaaGreatDoor.TokensAgain
open Go Go.Proofs Go.Abs Go.ChangeShapes Go.WideShapes Go.ChangeAt Go.RowKit Glue
theorem jL (H:Type)(enc:TypeId×Value→H)(W:World)(base:Nat)(args:Array Value)(ds gs:List (DataW H))(before:List MemPlace)
  (hval: ∀(j:Nat) t v,Tryz.f7.params[j]? =some t→args[j]? =some v→Value.okWide Tryz.prog W .any base t v)
  (hW:DataW.Whole enc Tryz.prog Tryz.f7.params.toList Rows.tokensAgainSpec.vars false W args.toList ds gs before) (hL:laidMetH Tryz.prog Rows.tokensAgainRow.laid W) (hS:W.ShapedOpen Tryz.prog):
  Calls Tryz.prog 7 args W fun e W'=> ∃v,e= .returned v∧Rows.tokensAgainSpec.post enc Tryz.prog Tryz.f7 false true false false W args v W':=by
 have hL':laidMet Tryz.prog rb W:=hL
 have B:=xe hL' hS
 have hW':=hW
 obtain⟨p,q,hA0,hV0,rfl,_,_⟩:=hW
 have hA:DataW.TrodAll enc Tryz.prog W 0 (fun _=>true) true Tryz.f7.params.toList args.toList ds p:=hA0
 rw[Tryz.params7]at hA hval
 obtain⟨v0,vs0,d0,ds0,p0,q0,e0,rfl,rfl,h0,r0⟩:=trodAll_cons hA
 obtain⟨rfl,rfl,rfl⟩:=trodAll_nil r0
 obtain rfl:args= #[v0]:=by cases args;simp_all
 obtain⟨rfl,rfl⟩:=trodVars_none hV0
 obtain⟨c0,V0,I0⟩:=Ga.open_arg (n:=8) (l:=[.str]) (by kernel_rfl) (hval 0 9 v0 rfl rfl) h0
 obtain⟨x0,X0⟩:=Ga.is_str (t:=9) (by kernel_rfl) I0
 clear hA0 hV0
 simp only[List.append_nil]at hW'
 have hm:cj Tryz.prog W 7 ([c0].map LV.cv) [] (.ret (LV.bool true) []):=by
  refine xO KO (HS B) ?_
  show (ev E).call 7 [LV.cv c0] []=_
  rw[(X0).1]
  exact MB
 refine(cj.bool (cargs:= #[v0]) hm rfl (fun j x hx=> ?_)).mono fun e W' ⟨he,hk⟩=> ?_
 ·match j,hx with
  |0,hx=>injection hx with hx;subst hx;exact V0
 ·subst he
  exact⟨_,rfl,Ga.post_true (tb:=4) Ji (by kernel_rfl) Tryz.underlying4 (by kernel_rfl) rfl hW' rfl rfl rfl hk⟩
theorem AX (os:Os){H:Type}(enc:TypeId×Value→H):
  (OpenSpec.ofChange Rows.tokensAgainSpec).preRow enc Tryz.prog Tryz.f7 Rows.tokensAgainRow.domain false Rows.tokensAgainRow.laid ((gp os).forCall (fun _ _=>0) ⟨#[],#[.string ⟨#[]⟩],[]⟩).memory #[.string ⟨#[]⟩]:=by
 have hw:(DataW.whole enc Tryz.prog ((gp os).forCall (fun _ _=>0) ⟨#[],#[.string ⟨#[]⟩],[]⟩).memory Tryz.f7.params.toList Rows.tokensAgainSpec.vars false (#[.string ⟨#[]⟩]:Array Value).toList 8).map (fun x=>(x.1,x.2.1))=
   some ([.lit (.string [])],[]):=by kernel_rfl
 obtain⟨⟨x1,x2,x3⟩,hx,hx1⟩:=Option.map_eq_some_iff.1 hw
 simp only[Prod.mk.injEq]at hx1
 obtain⟨rfl,rfl⟩:=hx1
 exact OpenSpec.preRow_of_cond 8 hx (by kernel_rfl) (fun k hk=>by cases hk) (by kernel_rfl) (Hf os _)
theorem KE (os:Os)(started:os.Started)(H:Type)(enc:TypeId×Value→H)(F:Stop.Interp):
  ReturnsInHanded {} Tryz.checked os 7 .any ((OpenSpec.ofChange Rows.tokensAgainSpec).preRow enc Tryz.prog Tryz.f7 Rows.tokensAgainRow.domain false Rows.tokensAgainRow.laid) (((OpenSpec.ofChange Rows.tokensAgainSpec).at F).post enc Tryz.prog Tryz.f7 false true false false):=by
 refine returnsInHanded_of_row (C:=Tryz.checked) (s:=OpenSpec.ofChange Rows.tokensAgainSpec) own started (by kernel_rfl) Tryz.func7
  (witness_row_atRef (enc:=enc) (C:=Tryz.checked) false (gp os) #[.string ⟨#[]⟩] rfl (by kernel_rfl) (by kernel_rfl) (by kernel_rfl) (AX os enc)) ?_
 intro W base args ds gs before hval hW _ _ _ hL hS _
 exact jL H enc W base args ds gs before hval hW hL hS
theorem said:Rows.TokensAgainSaid:=
 OpenClaim.holds_of_cond 7 Tryz.f7 rfl rfl rfl rfl rfl rfl rfl ⟨rfl,rfl,rfl,rfl,rfl⟩ rfl rfl rfl rfl rfl (by kernel_rfl) Tryz.func7 (by kernel_rfl)
  (of_decide_eq_true (by kernel_rfl)) (by unfold Func.isWrapper;first|(rw[if_pos (by decide+kernel)];kernel_rfl)|(rw[if_neg (by decide+kernel)];exact⟨rfl,rfl⟩))
  (fun os started H enc _ F=>by rw[OpenClaim.pre_eq_preRow];exact KE os started H enc F)
theorem plain (f:FuncId)(fn:Func)(hf:Tryz.pinned.checked.prog.funcNamed "formulary/formularylaw03.TokensAgain" =some f)(hfn:Tryz.pinned.checked.prog.funcs[f]? =some fn):
  true=Tryz.pinned.checked.prog.looks []∧ ∀(j:Nat) t,fn.params[j]? =some t→Tryz.pinned.checked.prog.wantsStandIn t=false:=by
 obtain rfl:f=7:=Option.some.inj ((show Tryz.prog.funcNamed "formulary/formularylaw03.TokensAgain" =some 7 by kernel_rfl).symm.trans hf) |>.symm
 obtain rfl:fn=Tryz.f7:=(Option.some.inj (Tryz.func7.symm.trans hfn)).symm
 refine⟨by kernel_rfl,fun j t ht=> ?_⟩
 rw[Tryz.params7]at ht
 have hm:=Array.mem_of_getElem? ht
 simp only[List.mem_toArray,List.mem_cons,List.not_mem_nil,or_false]at hm
 subst hm
 ·exact(show Tryz.prog.wantsStandIn 9=false by kernel_rfl)
end Go.Proofs.YtfcjjankfjaapaaGreatDoor.TokensAgain
namespace Go.Proofs.YtfcjjankfjaapaaGreatDoor
theorem tokensAgain_holds:Rows.TokensAgainCardSaid:=
 Claim7.holds_tied_plain_at .later [] _ _ _ _ TokensAgain.said (fun _ h=>by cases h) (by kernel_rfl) (fun _ h=>by cases h) tokensAgain_row_tie rfl ⟨rfl,rfl⟩ (by kernel_rfl) rfl TokensAgain.plain (by kernel_rfl)
#print axioms tokensAgain_holds
end Go.Proofs.YtfcjjankfjaapaaGreatDoor
