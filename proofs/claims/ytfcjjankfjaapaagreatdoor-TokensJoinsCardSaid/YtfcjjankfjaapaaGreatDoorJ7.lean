/-
  The statement TokensJoinsCardSaid, proved; part 8 of 8 of its proof.
  The text builder; whether a blank must stand between two tokens; the canonical text.
  The canonical text of tokens, by the program and by the reference.
  How long the canonical texts are of what is read from a text.
  TokensAgain: the law.
  TokensJoins: how deep parentheses are, the reference's canonical text, and the law.
  TokensJoins: the reference's canonical text, and the law.
  The library's functions that are taken by contract: the builder's copy check and its text.
  TokensJoins answers true for every argument, and its arguments read as they did.
-/
import Derived.Test.YtfcjjankfjaapaaGreatDoorJ6
import Derived.Test.YtfcjjankfjaapaaGreatDoorJ3
import Derived.Shelf.Strings.BuilderK
import Derived.Test.YtfcjjankfjaapaaGreatDoorJ5
import Derived.Test.YtfcjjankfjaapaaGreatDoorCards
import Derived.Test.YtfcjjankfjaapaaGreatDoorTie
import Derived.WalkKit
import Derived.OpenShut
set_option linter.all false
set_option linter.unusedSectionVars false
set_option linter.unusedVariables false
set_option linter.unusedSimpArgs false
set_option maxRecDepth 100000
namespace Go.Abs
open Go Go.Proofs
def yv:CV:=CV.v (.pointer none)
def bO (a:CV)(bs:List UInt8):Ob:= .cells [LV.cv a,LV.osl (aW bs)]
def bOK (b:Mu)(a:CV):Prop:=a=yv∨a=CV.ref b.length 0 0
section
variable {b:Mu}{a:CV}{bs:List UInt8}{r:Lam}
theorem jI {o:Ob}:a8 (b++[o::r]) b.length 0=o:=by simp[a8]
theorem kW {o o':Ob}:bD (b++[o::r]) b.length 0 o'=b++[o'::r]:=by simp[bD]
theorem Lz (ha:bOK b a):(ev E).call 116 [LV.cv (CV.tref b.length 0 103 2)] (b++[bO a bs::r])=some (.ret (.ltup []) (b++[bO (CV.ref b.length 0 0) bs::r])):=by
 refine dG (g:=iE 103) (by kernel_rfl) ?_
 rcases ha with rfl|rfl
 ·unfold iE
  simp only[ak,aa,aj]
  rw[jI]
  have e:b++[bO (CV.ref b.length 0 0) bs::r]=bD (b++[bO yv bs::r]) b.length 0 (bO (CV.ref b.length 0 0) bs):=kW.symm
  rw[e]
  rfl
 ·unfold iE
  simp only[ak,aa,aj]
  rw[jI]
  unfold bO
  simp only
  have:(Nat.beq b.length b.length&&Nat.beq 0 0)=true:=by rw[Nat.beq_refl];rfl
  rw[this,ay]
  rfl
theorem P0 {x:LV}{l:List CV}:ie E.P 101 (.cells [x,LV.osl l]) 1=some (LV.osl l,.cells [x,LV.cv (CV.sl l)]):=by kernel_rfl
theorem M2 {x y:LV}{l:List CV}:bI E.P 101 (.cells [x,y]) 1 (LV.osl l)=some (.cells [x,LV.osl l]):=by kernel_rfl
theorem Uu {x:LV}{l:List CV}:bB E.P 101 (.cells [x,LV.osl l]) 1=some (LV.cv (CV.sl l)):=by kernel_rfl
theorem jR {n:Nat}: ∀(l:List UInt8),bN n (aW l)=true
 |[]=>rfl
 |c::l=>by
  have e:aW (c::l)=CV.int .u8 (c.toNat:Int)::aW l:=rfl
  rw[e]
  simp only[bN]
  have:below n (CV.int .u8 (c.toNat:Int))=true:=rfl
  rw[this]
  exact jR l
theorem TM {c:UInt8}(ha:bOK b a)(hs:bs.length≤1000000):(ev E).call 74 [LV.cv (CV.tref b.length 0 103 2),LV.int .u8 (c.toNat:Int)] (b++[bO a bs::r])=some (.ret (LV.cv (CV.v .nilIface)) (b++[bO (CV.ref b.length 0 0) (bs++[c])::r])):=by
 refine aJ ?_
 have hc:[CV.int .u8 (c.toNat:Int)]=aW [c]:=rfl
 rw[Vv,Lz ha]
 simp only[ac,aq,aa,ak,am,ah,ae,aj,ay,cond_true,cond_false,Bool.not_true,Bool.not_false,au,ar,ao]
 rw[jI]
 unfold bO
 rw[P0,aa]
 simp only[ac,aq,aa,ak,am,ah,ae,aj,ay,cond_true,cond_false,Bool.not_true,Bool.not_false,au,ar,ao]
 rw[hc,tS (by simp;omega),ay,←n0,jR,ay,kW,jI,M2,aa,kW]
theorem TN {s:List UInt8}(ha:bOK b a)(hs:bs.length≤1000000)(hs2:s.length≤1000000):(ev E).call 75 [LV.cv (CV.tref b.length 0 103 2),LV.str s] (b++[bO a bs::r])=some (.ret (.ltup [LV.int .i64 (s.length:Int),LV.cv (CV.v .nilIface)]) (b++[bO (CV.ref b.length 0 0) (bs++s)::r])):=by
 refine aJ ?_
 rw[Vw,Lz ha]
 simp only[ac,aq,aa,ak,am,ah,ae,aj,ay,cond_true,cond_false,Bool.not_true,Bool.not_false,au,ar,ao]
 rw[jI]
 unfold bO
 rw[P0,aa]
 simp only[ac,aq,aa,ak,am,ah,ae,aj,ay,cond_true,cond_false,Bool.not_true,Bool.not_false,au,ar,ao]
 have:((Nat.beq 1 1&&bd (List.length (aW bs)+List.length s))&&fK 1 (aW bs))=true:=by
  rw[fE,bq (by omega),i8];rfl
 rw[this,ay,←n0,jR,ay,kW,jI,M2,aa,kW]
theorem TO:(ev E).call 76 [LV.cv (CV.tref b.length 0 103 2)] (b++[bO a bs::r])=some (.ret (LV.int .i64 (bs.length:Int)) (b++[bO a bs::r])):=by
 refine aJ ?_
 rw[Vx,jI]
 unfold bO
 rw[Uu,aa]
 simp only[ac,aq,aa,ak,am,ah,ae,aj,ay,cond_true,cond_false,Bool.not_true,Bool.not_false,au,ar,ao]
 rw[fE]
theorem TP:(ev E).call 77 [LV.cv (CV.tref b.length 0 103 2)] (b++[bO a bs::r])=some (.ret (LV.str bs) (b++[.dead::r])):=by
 refine dG (g:=o2 103) (by kernel_rfl) ?_
 unfold o2
 simp only[ak,aa,aj]
 rw[jI,kW]
 unfold bO
 simp only[ao,aa]
 rw[cS]
 rfl
theorem Aj {α:Type}{k:Lam→Option α}:ol [(0,[3,1])] (bO a bs::r) k=k (bO a bs::r):=by
 unfold bO
 simp only[ol,aH,List.getElem?_cons_zero,fm,wA,fi,ao,aa,List.set_cons_zero]
theorem nh {x:Lam}:dz (b++[x])=some (b,x):=by simp[dz]
end
theorem A9 {s:List UInt8}{c:UInt8}:Lib.contains s [c]=decide (c∈s):=by
 unfold Lib.contains
 rcases iV s c with⟨h1,h2⟩|⟨a,r,h1,h2,h3⟩
 ·rw[h1,decide_eq_false (fun h=>h2 c h rfl)];rfl
 ·rw[h3,decide_eq_true (by omega:(0:Int)≤(a.length:Int)),decide_eq_true (by rw[h1];simp)]
section
variable {μ:Mu}
theorem Uy {t u:Tok}(h:t.text.length≤90000)(h2:u.text.length≤90000):pk (ev E) t.kind t.type t.text u.kind u.type u.text μ=some (kw (!decide ((bb false (t.text++u.text)).e=0∧bX false (t.text++u.text)=[t,u])) μ):=by
 refine aT ?_
 obtain⟨s,hs⟩: ∃s,s=t.text++u.text:=⟨_,rfl⟩
 have hl:s.length≤200000:=by rw[hs];simp;omega
 rw[Q4,bq (by omega),ay,←hs,Hw hl]
 simp only[ac,aq,aa,ak,am,ah,ae,aj,ay,cond_true,cond_false,Bool.not_true,Bool.not_false,au,ar,ao,fi]
 by_cases he:(bb false s).e=0
 ·obtain⟨_,hn,hC⟩:=kQ he
  have hT:bX false s=(bb false s).toks:=by unfold bX;rw[if_pos he]
  have h1:decide ((bb false s).e=0)=true:=by simp[he]
  rw[h1,Bool.not_true,cond_false]
  by_cases h2n:(bb false s).n=2
  ·have h3:decide (((bb false s).n:Int)=2)=true:=by simp[h2n]
   rw[h3,Bool.not_true,cond_false,hC,qk,aa,Bool.not_false,ay,r9,aa]
   simp only[ac,aq,aa,ak,am,ah,ae,aj,ay,cond_true,cond_false,Bool.not_true,Bool.not_false,au,ar,ao,vE,r6]
   obtain⟨x,y,hxy⟩: ∃x y,(bb false s).toks=[x,y]:=by
    rw[h2n]at hn
    match hq:(bb false s).toks,hn with
    |[x,y],_=>exact⟨x,y,rfl⟩
   have e1:bY (aw [x,y]) (0:Int)=some x.cv:=rfl
   have e2:bY (aw [x,y]) (1:Int)=some y.cv:=rfl
   rw[hxy,e1,aa,bx,xD,e2]
   by_cases hx:x=t
   ·rw[decide_eq_true hx,Bool.not_true,cond_false,aa,bx,xD]
    by_cases hy:y=u
    ·rw[decide_eq_true hy,decide_eq_true ⟨he,by rw[hT,hxy,hx,hy]⟩]
    ·rw[decide_eq_false hy,decide_eq_false (fun e=>hy (by have:=e.2;rw[hT,hxy]at this;simp at this;exact this.2))]
   ·rw[decide_eq_false hx,decide_eq_false (fun e=>hx (by have:=e.2;rw[hT,hxy]at this;simp at this;exact this.1))]
    rfl
  ·have h3:decide (((bb false s).n:Int)=2)=false:=by simp;omega
   rw[h3,Bool.not_false,cond_true,decide_eq_false]
   ·rfl
   ·intro e
    have:=e.2
    rw[hT]at this
    rw[this]at hn
    exact h2n hn
 ·have h1:decide ((bb false s).e=0)=false:=by simp[he]
  rw[h1,Bool.not_false,cond_true,decide_eq_false (fun e=>he e.1)]
  rfl
theorem TL {t u:Tok}(h:t.text.length≤90000)(h2:u.text.length≤90000):(ev E).call 73 [LV.cv t.cv,LV.cv u.cv] μ=some (.ret (LV.bool (decide (apB t u))) μ):=by
 refine aJ ?_
 have hG:(opt (pk (ev E) t.kind t.type t.text u.kind u.type u.text μ) (kB (ev E) 73 H73 []))=some (.ret (LV.bool (!decide ((bb false (t.text++u.text)).e=0∧bX false (t.text++u.text)=[t,u]))) μ):=by
  rw[Uy h h2,aa,Ig]
 have hap: ∀(hs: ¬iK t u),decide (apB t u)= !decide ((bb false (t.text++u.text)).e=0∧bX false (t.text++u.text)=[t,u]):=by
  intro hs
  by_cases hq:(bb false (t.text++u.text)).e=0∧bX false (t.text++u.text)=[t,u]
  ·rw[decide_eq_true hq,decide_eq_false (fun e=>e.elim hs (fun e=>e hq))];rfl
  ·have:apB t u:=Or.inr hq
   rw[decide_eq_false hq,decide_eq_true this];rfl
 obtain⟨a,b,s⟩:=t
 obtain⟨a2,b2,s2⟩:=u
 show aC E (ev E) 73 [LV.cv (CV.agg [CV.int .i64 a,CV.int .i64 b,CV.str s]),LV.cv (CV.agg [CV.int .i64 a2,CV.int .i64 b2,CV.str s2])] μ=_
 simp only at hG h h2
 rw[Vu]
 rw[RX (by omega)]
 simp only[ac,aq,aa,ak,am,ah,ae,aj,ay,cond_true,cond_false,Bool.not_true,Bool.not_false,au,ar,ao]
 rw[A9,hG]
 by_cases ha:a=1
 ·by_cases hE:s2=[69]∨s2=[68]
  ·have hEE: ∀(x:Option Out),cond (decide (s2=[69])) (some (.ret (LV.bool true) μ)) (cond (decide (s2=[68])) (some (.ret (LV.bool true) μ)) x)=some (.ret (LV.bool true) μ):=by
    intro x
    rcases hE with rfl|rfl<;>rfl
   rw[hEE,decide_eq_true ha,cond_true]
   by_cases hb:b=0
   ·have:apB ⟨a,b,s⟩ ⟨a2,b2,s2⟩:=Or.inl ⟨ha,Or.inl hb,hE⟩
    rw[decide_eq_true hb,cond_true,decide_eq_true this]
   ·rw[decide_eq_false hb,cond_false]
    by_cases hb1:b=1
    ·rw[decide_eq_true hb1,cond_true]
     by_cases h69:(69:UInt8)∈s
     ·rw[decide_eq_true h69,hap]
      ·rfl
      ·rintro⟨_,h|⟨_,h⟩,_⟩
       ·exact hb h
       ·exact h h69
     ·have:apB ⟨a,b,s⟩ ⟨a2,b2,s2⟩:=Or.inl ⟨ha,Or.inr ⟨hb1,h69⟩,hE⟩
      rw[decide_eq_false h69,decide_eq_true this]
      rfl
    ·rw[decide_eq_false hb1,cond_false,hap]
     rintro⟨_,h|⟨h,_⟩,_⟩
     ·exact hb h
     ·exact hb1 h
  ·have h1:decide (s2=[69])=false:=decide_eq_false (fun e=>hE (Or.inl e))
   have h2:decide (s2=[68])=false:=decide_eq_false (fun e=>hE (Or.inr e))
   rw[h1,h2,hap (fun e=>hE e.2.2)]
   cases decide (a=1)<;>cases decide (b=0)<;>cases decide (b=1)<;>cases decide ((69:UInt8)∈s)<;>rfl
 ·rw[decide_eq_false ha,cond_false,hap (fun e=>ha e.1)]
def fF:Nat→List Tok→Nat×Int
 |_,[]=>(0,0)
 |n,t::l=>if gw t=0 then fF (n+1) l else(n,gw t)
def gm (l:List Tok):Nat×Int:=if 300<l.length then(0,8)else fF 0 l
theorem iZ {l:List Tok}{i:Nat}(h:i<l.length):bY (aw l) (i:Int)=some (l[i]).cv:=by
 rw[e7]
 unfold aw
 rw[List.getElem?_map,List.getElem?_eq_getElem h]
 rfl
theorem dl {l:List Tok}:(aw l).length=l.length:=by simp[aw]
def yh {α:Type}(f:Int→Int→Mu→α)(g:Mu→α)(μ:Mu)(q:Nat×Int):α:=if q.2=0 then g μ else f (q.1:Int) q.2 μ
theorem SF {l:List Tok}(hl:l.length≤100000)(hs: ∀t∈l,t.text.length≤200000): ∀(k i:Nat),i+k=l.length→GP (ev E) (aw l) (l.length:Int) (i:Int) μ=some (yh vo vp μ (fF i (l.drop i))):=by
 intro k
 induction k with
 |zero=>
  intro i hi
  refine ba ?_
  rw[F6,cW (by omega),cond_false,List.drop_eq_nil_of_le (by omega)]
  rfl
 |succ k ih=>
  intro i hi
  refine ba ?_
  have hlt:i<l.length:=by omega
  have hd:l.drop i=l[i]::l.drop (i+1):=List.drop_eq_getElem_cons hlt
  rw[F6,cL hlt,cond_true,iZ hlt,aa,bx,show CV.agg [CV.int .i64 (l[i]).kind,CV.int .i64 (l[i]).type,CV.str (l[i]).text]=(l[i]).cv from rfl,Tw (hs _ (List.getElem_mem hlt))]
  simp only[ac,aq,aa,ak,am,ah,ae,aj,ay,cond_true,cond_false,Bool.not_true,Bool.not_false,au,ar,ao]
  rw[bU (by omega),ih (i+1) (by omega),hd,fF]
  by_cases he:gw l[i]=0
  ·rw[if_pos he,decide_eq_true he];rfl
  ·rw[if_neg he,decide_eq_false he,Bool.not_false,cond_true]
   unfold yh
   rw[if_neg he]
theorem PP {l:List Tok}(hl:l.length≤100000)(hs: ∀t∈l,t.text.length≤200000):(ev E).call 72 [LV.cv (CV.sl (aw l))] μ=some (.ret (.ltup [LV.int .i64 ((gm l).1:Int),LV.int .i64 (gm l).2]) μ):=by
 refine aJ ?_
 rw[Vt,dl]
 unfold gm
 by_cases h:300<l.length
 ·rw[if_pos h,decide_eq_true (by omega:(300:Int)<(l.length:Int))];rfl
 ·rw[if_neg h,decide_eq_false (by omega: ¬(300:Int)<(l.length:Int)),cond_false]
  have:=SF (μ:=μ) hl hs l.length 0 (by omega)
  rw[List.drop_zero,show ((0:Nat):Int)=0 from rfl]at this
  have hG:Po (ev E) (aw l) μ=some (pJ ((fF 0 l).1:Int) (fF 0 l).2 μ):=by
   refine aT ?_
   rw[Q3,dl,this,aa]
   have key: ∀(n:Nat) (l:List Tok),(fF n l).2=0→(fF n l).1=0:=by
    intro n l
    induction l generalizing n with
    |nil=>intro _;rfl
    |cons t l ih=>
     unfold fF
     split
     ·exact ih (n+1)
     ·rename_i h;intro h2;exact absurd h2 h
   unfold yh
   by_cases h0:(fF 0 l).2=0
   ·rw[if_pos h0,h0,key 0 l h0];exact IU _ _
   ·rw[if_neg h0];exact IT _ _ _ _
  rw[hG,aa,If]
theorem Sv {l:List Tok}(hl:l.length≤100000)(hs: ∀t∈l,t.text.length≤200000): ∀(k i:Nat),i+k=l.length→GK (ev E) (aw l) (i:Int) μ=some (yh u9 vc μ (fF i (l.drop i))):=by
 intro k
 induction k with
 |zero=>
  intro i hi
  refine ba ?_
  rw[FV,dl,cW (by omega),cond_false,List.drop_eq_nil_of_le (by omega)]
  rfl
 |succ k ih=>
  intro i hi
  refine ba ?_
  have hlt:i<l.length:=by omega
  have hd:l.drop i=l[i]::l.drop (i+1):=List.drop_eq_getElem_cons hlt
  rw[FV,dl,cL hlt,cond_true,iZ hlt,aa,bx,show CV.agg [CV.int .i64 (l[i]).kind,CV.int .i64 (l[i]).type,CV.str (l[i]).text]=(l[i]).cv from rfl,Tx (hs _ (List.getElem_mem hlt)),←O1]
  simp only[ac,aq,aa,ak,am,ah,ae,aj,ay,cond_true,cond_false,Bool.not_true,Bool.not_false,au,ar,ao]
  rw[bU (by omega),ih (i+1) (by omega),hd,fF]
  by_cases he:gw l[i]=0
  ·rw[if_pos he,decide_eq_true he];rfl
  ·rw[if_neg he,decide_eq_false he,Bool.not_false,cond_true]
   unfold yh
   rw[if_neg he]
theorem Lk: ∀(n:Nat) (l:List Tok),(fF n l).2=0→(fF n l).1=0:=by
 intro n l
 induction l generalizing n with
 |nil=>intro _;rfl
 |cons t l ih=>
  unfold fF
  split
  ·exact ih (n+1)
  ·rename_i h;intro h2;exact absurd h2 h
theorem PE {l:List Tok}(hl:l.length≤100000)(hs: ∀t∈l,t.text.length≤200000):(ev E).call 21 [LV.cv (CV.sl (aw l))] μ=some (.ret (.ltup [LV.int .i64 ((gm l).1:Int),LV.int .i64 (gm l).2]) μ):=by
 refine aJ ?_
 rw[U4,dl]
 unfold gm
 by_cases h:300<l.length
 ·rw[if_pos h,decide_eq_true (by omega:(300:Int)<(l.length:Int))];rfl
 ·rw[if_neg h,decide_eq_false (by omega: ¬(300:Int)<(l.length:Int)),cond_false]
  have:=Sv (μ:=μ) hl hs l.length 0 (by omega)
  rw[List.drop_zero,show ((0:Nat):Int)=0 from rfl]at this
  have hG:Pd (ev E) (aw l) μ=some (pF ((fF 0 l).1:Int) (fF 0 l).2 μ):=by
   refine aT ?_
   rw[QS,this,aa]
   unfold yh
   by_cases h0:(fF 0 l).2=0
   ·rw[if_pos h0,h0,Lk 0 l h0];exact IC _ _
   ·rw[if_neg h0];exact IB _ _ _ _
  rw[hG,aa,HU]
theorem Qq: ∀(n:Nat) (l:List Tok),(fF n l).2=0↔ ∀t∈l,VT t:=by
 intro n l
 induction l generalizing n with
 |nil=>simp[fF]
 |cons t l ih=>
  unfold fF
  by_cases h:gw t=0
  ·rw[if_pos h,ih (n+1)]
   simp[wc.1 h]
  ·rw[if_neg h]
   constructor
   ·intro h2;exact absurd h2 h
   ·intro h2;exact absurd (wc.2 (h2 t (by simp))) h
theorem BH {l:List Tok}:(gm l).2=0↔l.length≤300∧ ∀t∈l,VT t:=by
 unfold gm
 by_cases h:300<l.length
 ·rw[if_pos h]
  constructor
  ·intro h2;exact absurd h2 (by decide)
  ·intro h2;omega
 ·rw[if_neg h,Qq]
  constructor
  ·intro h2;exact⟨by omega,h2⟩
  ·intro h2;exact h2.2
end
end Go.Abs
set_option linter.unusedVariables false
set_option linter.unusedSimpArgs false
set_option maxRecDepth 100000
namespace Go.Abs
open Go Go.Proofs
def fN (l:List Tok)(i:Nat):List UInt8:=if i=0 then bQ l else match l[i-1]? with|some t=>eJ t (l.drop i)|none=>[]
def kg (l:List Tok)(i:Nat):Bool:=if i=0 then false else match l[i-1]?,l[i]? with|some t,some u=>decide (apB t u)|_,_=>false
def ot (x:Bool):List UInt8:=if x then [32]else []
theorem xB {l:List Tok}{i:Nat}(h:i<l.length):fN l i=ot (kg l i)++(l[i].text++fN l (i+1)):=by
 have hd:l.drop i=l[i]::l.drop (i+1):=List.drop_eq_getElem_cons h
 have e1:fN l (i+1)=eJ l[i] (l.drop (i+1)):=by
  unfold fN
  rw[if_neg (by omega),Nat.add_sub_cancel,List.getElem?_eq_getElem h]
 rw[e1]
 unfold fN kg
 by_cases h0:i=0
 ·subst h0
  rw[if_pos rfl,if_pos rfl]
  rw[List.drop_zero]at hd
  conv=>lhs;rw[hd]
  rfl
 ·rw[if_neg h0,if_neg h0]
  have h1:i-1<l.length:=by omega
  rw[List.getElem?_eq_getElem h1,List.getElem?_eq_getElem h,hd]
  simp only
  rw[eJ]
  unfold ot
  by_cases ha:apB l[i-1] l[i]
  ·rw[if_pos ha,decide_eq_true ha,if_pos rfl]
  ·rw[if_neg ha,decide_eq_false ha,if_neg (by simp)]
theorem zx {l:List Tok}:fN l l.length=[]:=by
 unfold fN
 by_cases h:l.length=0
 ·rw[if_pos h,List.eq_nil_of_length_eq_zero h];rfl
 ·rw[if_neg h,List.drop_length]
  split<;>rfl
section
variable {μ:Mu}{l:List Tok}
theorem CI {a:CV}{bs:List UInt8}{r:Lam}{n m:Int}(ha:bOK μ a):
  (true&&Nat.ble 1 (List.length (bO a bs::r))&&e8 μ.length 1 [LV.cv (CV.sl (aw l)),LV.tloc 0 103 2,LV.cv (CV.sl (aw l)),LV.int .i64 n,LV.int .i64 m,LV.cv CV.undef]&&gu μ.length 1 (List.take 1 (bO a bs::r)))=true:=by
 have h1:sZ μ.length 1 (CV.sl (aw l))=true:=by show bN μ.length (aw l)=true;exact k9 l
 have h2:pf μ.length 1 (bO a bs)=true:=by
  unfold bO pf
  have h3:fC μ.length 1 (LV.cv a)=true:=by
   rcases ha with rfl|rfl
   ·rfl
   ·show (match Nat.blt μ.length μ.length with|true=>true|false=>Nat.blt 0 1)=true
    cases Nat.blt μ.length μ.length<;>rfl
  have h4:fC μ.length 1 (LV.osl (aW bs))=true:=by show bN μ.length (aW bs)=true;exact jR bs
  simp only[e8,h3,h4]
 have h5:Nat.ble 1 (List.length (bO a bs::r))=true:=by simp[Nat.ble_eq]
 rw[h5]
 simp only[Bool.true_and,List.take_succ_cons,List.take_zero,gu,h2,Bool.and_true]
 simp only[e8,fC,h1]
 rfl
theorem Tb {a:CV}{bs:List UInt8}{i:Nat}{t:Tok}(ha:bOK μ a)(hb:bs.length≤900000)(ht:t.text.length≤90000)(hi:i≤100000)(x:Bool){P:Option St→Prop}
  (hP: ∀a',bOK μ a'→P (zT (ev E) (aw l) (aw l) (l.length:Int) ((i+1:Nat):Int) [bO a' (bs++(ot x++t.text))] μ)):
  P (opt (pj (ev E) (aw l) (aw l) (l.length:Int) (i:Int) x [bO a bs,Ob.cells [LV.int .i64 t.kind,LV.int .i64 t.type,LV.str t.text]] μ) (kR (ev E) H29 [.seq (cA 29 [1,1,1,0,1,0,0,1,1,0,0,1,1]),.block 1,.seq (cA 29 [1,1,1,0,1,0,0,1,1,1])] [(6,0)] (cA 29 [1,1,1,0,1,0,0]))):=by
 have key: ∀a2 bs2,bOK μ a2→bs2.length≤900001→bs2=bs++ot x→
   P (opt (wh (ev E) (aw l) (aw l) (l.length:Int) (i:Int) [bO a2 bs2,Ob.cells [LV.int .i64 t.kind,LV.int .i64 t.type,LV.str t.text]] μ) (kR (ev E) H29 [.block 1,.seq (cA 29 [1,1,1,0,1,0,0,1,1,1])] [(6,0)] (cA 29 [1,1,1,0,1,0,0]))):=by
  intro a2 bs2 h2 hb2 he
  have hG:wh (ev E) (aw l) (aw l) (l.length:Int) (i:Int) [bO a2 bs2,Ob.cells [LV.int .i64 t.kind,LV.int .i64 t.type,LV.str t.text]] μ=
    some (rq (aw l) (aw l) (l.length:Int) (i:Int) [bO (CV.ref μ.length 0 0) (bs2++t.text),Ob.cells [LV.int .i64 t.kind,LV.int .i64 t.type,LV.str t.text]] μ):=by
   refine aT ?_
   unfold bO
   rw[Oc]
   have:=TN (b:=μ) (a:=a2) (bs:=bs2) (r:=[Ob.cells [LV.int .i64 t.kind,LV.int .i64 t.type,LV.str t.text]]) (s:=t.text) h2 (by omega) (by omega)
   unfold bO at this
   rw[this]
   simp only[ac,aq,aa,ak,am,ah,ae,aj,ay,cond_true,cond_false,Bool.not_true,Bool.not_false,au,ar,ao,fi,nh]
  rw[hG,aa,DH,Aj]
  have hG2:JB (ev E) (aw l) (aw l) (l.length:Int) (i:Int) [bO (CV.ref μ.length 0 0) (bs2++t.text),Ob.cells [LV.int .i64 t.kind,LV.int .i64 t.type,LV.str t.text]] μ=
    some (rr (aw l) (aw l) (l.length:Int) ((i+1:Nat):Int) (CV.ref μ.length 0 0) (aW (bs2++t.text)) t.kind t.type t.text μ):=by
   refine aT ?_
   unfold bO
   rw[Od,bU (by omega)]
  have hu:=CI (l:=l) (a:=CV.ref μ.length 0 0) (bs:=bs2++t.text) (r:=[Ob.cells [LV.int .i64 t.kind,LV.int .i64 t.type,LV.str t.text]]) (n:=(l.length:Int)) (m:=((i+1:Nat):Int)) (μ:=μ) (Or.inr rfl)
  unfold bO at hu
  rw[hG2,aa,DI,hu,ay]
  have:=hP (CV.ref μ.length 0 0) (Or.inr rfl)
  rw[←List.append_assoc,←he]at this
  exact this
 cases x with
 |false=>
  have hG:pj (ev E) (aw l) (aw l) (l.length:Int) (i:Int) false [bO a bs,Ob.cells [LV.int .i64 t.kind,LV.int .i64 t.type,LV.str t.text]] μ=
    some (uO (aw l) (aw l) (l.length:Int) (i:Int) a (aW bs) t.kind t.type t.text μ):=by
   refine aT ?_
   unfold bO
   rw[FP]
   rfl
  rw[hG,aa,HY]
  exact key a bs ha (by omega) (by simp[ot])
 |true=>
  have hG:pj (ev E) (aw l) (aw l) (l.length:Int) (i:Int) true [bO a bs,Ob.cells [LV.int .i64 t.kind,LV.int .i64 t.type,LV.str t.text]] μ=
    some (uN (aw l) (aw l) (l.length:Int) (i:Int) [bO (CV.ref μ.length 0 0) (bs++[32]),Ob.cells [LV.int .i64 t.kind,LV.int .i64 t.type,LV.str t.text]] μ):=by
   refine aT ?_
   unfold bO
   rw[FP,cond_true]
   have:=TM (b:=μ) (a:=a) (bs:=bs) (r:=[Ob.cells [LV.int .i64 t.kind,LV.int .i64 t.type,LV.str t.text]]) (c:=32) ha (by omega)
   unfold bO at this
   rw[show LV.int .u8 (32:Int)=LV.int .u8 ((32:UInt8).toNat:Int)from rfl,this]
   simp only[ac,aq,aa,ak,am,ah,ae,aj,ay,cond_true,cond_false,Bool.not_true,Bool.not_false,au,ar,ao,fi,nh]
  rw[hG,aa,HX,Aj]
  exact key _ _ (Or.inr rfl) (by simp;omega) rfl
theorem Sw (hl:l.length≤400)(hs: ∀t∈l,t.text.length≤1320): ∀(k i:Nat) (a:CV) (bs:List UInt8),i+k=l.length→bOK μ a→bs.length≤i*1400→
  ∃a',bOK μ a'∧zT (ev E) (aw l) (aw l) (l.length:Int) (i:Int) [bO a bs] μ=some (mX a' (aW (bs++fN l i)) μ):=by
 intro k
 induction k with
 |zero=>
  intro i a bs hi ha hb
  refine⟨a,ha,?_⟩
  refine ba ?_
  unfold bO
  have:i=l.length:=by omega
  rw[FW,cW (by omega),cond_false,this,zx,List.append_nil]
 |succ k ih=>
  intro i a bs hi ha hb
  have hlt:i<l.length:=by omega
  have ht:=hs _ (List.getElem_mem hlt)
  have hstep:=xB hlt
  have hbl:(ot (kg l i)).length≤1:=by unfold ot;split<;>simp
  obtain⟨a',h1,h2⟩: ∃a',bOK μ a'∧opt (pj (ev E) (aw l) (aw l) (l.length:Int) (i:Int) (kg l i) [bO a bs,Ob.cells [LV.int .i64 (l[i]).kind,LV.int .i64 (l[i]).type,LV.str (l[i]).text]] μ) (kR (ev E) H29 [.seq (cA 29 [1,1,1,0,1,0,0,1,1,0,0,1,1]),.block 1,.seq (cA 29 [1,1,1,0,1,0,0,1,1,1])] [(6,0)] (cA 29 [1,1,1,0,1,0,0]))=some (mX a' (aW (bs++fN l i)) μ):=by
   refine Tb (P:=fun o=> ∃a',bOK μ a'∧o=some (mX a' (aW (bs++fN l i)) μ)) (t:=l[i]) ha (by omega) (by omega) (by omega) (kg l i) fun a' h=> ?_
   obtain⟨a2,k1,k2⟩:=ih (i+1) a' (bs++(ot (kg l i)++l[i].text)) (by omega) h (by simp;omega)
   refine⟨a2,k1,?_⟩
   rw[k2,hstep]
   simp
  refine⟨a',h1,?_⟩
  refine ba ?_
  rw[show (wG (aw l) (aw l) (l.length:Int) (i:Int) [bO a bs])=(wG (aw l) (aw l) (l.length:Int) (i:Int) [Ob.cells [LV.cv a,LV.osl (aW bs)]])from rfl,FW,cL hlt,cond_true,iZ hlt,aa,bx]
  by_cases h0:i=0
  ·subst h0
   have:kg l 0=false:=rfl
   rw[this]at h2
   rw[show decide ((0:Int)<((0:Nat):Int))=false from rfl,cond_false]
   exact h2
  ·have h3:decide ((0:Int)<(i:Int))=true:=by simp;omega
   have h4:i-1<l.length:=by omega
   have hsj:kg l i=decide (apB l[i-1] l[i]):=by
    unfold kg
    rw[if_neg h0,List.getElem?_eq_getElem h4,List.getElem?_eq_getElem hlt]
   have ht1:=hs _ (List.getElem_mem h4)
   rw [h3, cond_true, tP (by omega) (by omega), iZ h4, aa, bx,
    show CV.agg [CV.int .i64 (l[i-1]).kind,CV.int .i64 (l[i-1]).type,CV.str (l[i-1]).text]=(l[i-1]).cv from rfl,
    show CV.agg [CV.int .i64 (l[i]).kind,CV.int .i64 (l[i]).type,CV.str (l[i]).text]=(l[i]).cv from rfl,TL (by omega) (by omega),ac,nh,aa,ae,aa,←hsj]
   have:=Aj (a:=a) (bs:=bs) (r:=[Ob.cells [LV.int .i64 (l[i]).kind,LV.int .i64 (l[i]).type,LV.str (l[i]).text]]) (α:=St)
    (k:=fun lam26=>opt (pj (ev E) (aw l) (aw l) (l.length:Int) (i:Int) (kg l i) lam26 μ) (kR (ev E) H29 [.seq (cA 29 [1,1,1,0,1,0,0,1,1,0,0,1,1]),.block 1,.seq (cA 29 [1,1,1,0,1,0,0,1,1,1])] [(6,0)] (cA 29 [1,1,1,0,1,0,0])))
   unfold bO at this h2
   exact this.trans h2
def wS (l:List Tok):List UInt8×Int:=if(gm l).2=0 then(if 1320<(bQ l).length then([],8)else(bQ l,0))else([],(gm l).2)
theorem TA (hl:l.length≤100000)(hs: ∀t∈l,t.text.length≤1320):(ev E).call 29 [LV.cv (CV.sl (aw l))] μ=some (.ret (.ltup [LV.str (wS l).1,LV.int .i64 (wS l).2]) μ):=by
 refine aJ ?_
 rw[U6,PP hl (fun t ht=>by have:=hs t ht;omega)]
 simp only[ac,aq,aa,ak,am,ah,ae,aj,ay,cond_true,cond_false,Bool.not_true,Bool.not_false,au,ar,ao]
 unfold wS
 by_cases he:(gm l).2=0
 ·have h3:=(BH.1 he).1
  rw[if_pos he,decide_eq_true he,Bool.not_true,cond_false]
  obtain⟨a',h1,h2⟩:=Sw (μ:=μ) (l:=l) (by omega) hs l.length 0 yv [] (by omega) (Or.inl rfl) (by simp)
  rw[List.nil_append,show fN l 0=bQ l from rfl,show ((0:Nat):Int)=0 from rfl]at h2
  have hG:Pe (ev E) (aw l) μ=some (if 1320<(bQ l).length then uL [] 8 a' (aW (bQ l)) μ else uM (bQ l) 0 [.dead] μ):=by
   refine aT ?_
   have hu:=CI (l:=l) (a:=yv) (bs:=[]) (r:=[]) (n:=(l.length:Int)) (m:=0) (μ:=μ) (Or.inl rfl)
   unfold bO yv at hu
   rw[QT,dl,show ([]:List CV)=aW []from rfl,hu,ay]
   rw[show List.take 1 [Ob.cells [LV.cv (CV.v (.pointer none)),LV.osl (aW [])]]=[bO yv []]from rfl,h2,aa,ID]
   have h76:=TO (b:=μ) (a:=a') (bs:=bQ l) (r:=[])
   have hob:=Aj (a:=a') (bs:=bQ l) (r:=[]) (α:=St) (k:=fun lam60=>opt (Az (ev E) (decide ((1320:Int)<((bQ l).length:Int))) lam60 μ) (kS (ev E) H29 [.seq (cA 29 [1,1,1,1,1])] [(2,0),(3,0)]))
   unfold bO at h76 hob
   rw[h76,ac,nh,aa,am,aa,hob]
   have h13: ∀x:Bool,Az (ev E) x [Ob.cells [LV.cv a',LV.osl (aW (bQ l))]] μ=some (cond x (rt [] 8 a' (aW (bQ l)) μ) (ru a' (aW (bQ l)) μ)):=by
    intro x
    refine aT ?_
    rw[Oe]
    cases x<;>rfl
   rw[h13,aa]
   by_cases h:1320<(bQ l).length
   ·rw[if_pos h,decide_eq_true (by omega:(1320:Int)<((bQ l).length:Int)),cond_true,DJ]
   ·rw[if_neg h,decide_eq_false (by omega: ¬(1320:Int)<((bQ l).length:Int)),cond_false,DK]
    have h14:JC (ev E) [Ob.cells [LV.cv a',LV.osl (aW (bQ l))]] μ=some (rx (bQ l) 0 [.dead] μ):=by
     refine aT ?_
     have h77:=TP (b:=μ) (a:=a') (bs:=bQ l) (r:=[])
     unfold bO at h77
     rw[Of,h77,ac,nh,aa,ah,aa]
    rw[h14,aa,DL]
  rw[hG,aa]
  by_cases h:1320<(bQ l).length
  ·rw[if_pos h,if_pos h,HV]
  ·rw[if_neg h,if_neg h,HW]
 ·rw[if_neg he,decide_eq_false he]
  rfl
end
end Go.Abs
set_option linter.unusedVariables false
set_option linter.unusedSimpArgs false
set_option maxRecDepth 100000
namespace Go.Abs
open Go Go.Proofs
section
variable {v:List UInt8}
end
end Go.Abs
set_option linter.unusedVariables false
set_option linter.unusedSimpArgs false
set_option maxRecDepth 100000
namespace Go.Abs
open Go Go.Proofs
section
variable {μ:Mu}{l:List Tok}{s:List UInt8}
def rY (l:List Tok):Bool:= !(decide (60<l.length)&&decide (l.length≤300)||decide (302<l.length))&&l.all fun t=>decide (t.text.length≤130)
theorem Su (hl:l.length≤100000): ∀(k i:Nat),i+k=l.length→GJ (ev E) (aw l) (i:Int) μ=some (if(l.drop i).all (fun t=>decide (t.text.length≤130))then u7 μ else u5 false μ):=by
 intro k
 induction k with
 |zero=>
  intro i hi
  refine ba ?_
  rw[FU,dl,cW (by omega),cond_false,List.drop_eq_nil_of_le (by omega)]
  rfl
 |succ k ih=>
  intro i hi
  refine ba ?_
  have hlt:i<l.length:=by omega
  have hd:l.drop i=l[i]::l.drop (i+1):=List.drop_eq_getElem_cons hlt
  rw[FU,dl,cL hlt,cond_true,iZ hlt,aa,bx,bU (by omega),ih (i+1) (by omega),hd,List.all_cons]
  by_cases h:(l[i]).text.length≤130
  ·rw[decide_eq_true h,decide_eq_false (by omega: ¬(130:Int)<((l[i]).text.length:Int)),cond_false,Bool.true_and]
  ·rw[decide_eq_false h,decide_eq_true (by omega:(130:Int)<((l[i]).text.length:Int)),cond_true,Bool.false_and,if_neg (by simp)]
theorem Tz (hl:l.length≤100000):(ev E).call 20 [LV.cv (CV.sl (aw l))] μ=some (.ret (LV.bool (rY l)) μ):=by
 refine aJ ?_
 have hG:(opt (zR (ev E) (aw l) μ) (kB (ev E) 20 H20 []))=some (.ret (LV.bool (l.all fun t=>decide (t.text.length≤130))) μ):=by
  have:zR (ev E) (aw l) μ=some (pE (l.all fun t=>decide (t.text.length≤130)) μ):=by
   refine aT ?_
   have:=Su (μ:=μ) hl l.length 0 (by omega)
   rw[List.drop_zero,show ((0:Nat):Int)=0 from rfl]at this
   rw[QR,this,aa]
   cases hq:l.all fun t=>decide (t.text.length≤130)with
   |true=>rw[if_pos rfl];exact IA _ _
   |false=>rw[if_neg (by simp)];exact Iz _ _ _
  rw[this,aa,HT]
 rw[SQ,dl,hG]
 unfold rY
 by_cases h1:60<l.length
 ·rw[decide_eq_true h1,decide_eq_true (by omega:(60:Int)<(l.length:Int)),cond_true]
  by_cases h2:l.length≤300
  ·rw[decide_eq_true h2,decide_eq_true (by omega:(l.length:Int)≤300)];rfl
  ·rw[decide_eq_false h2,decide_eq_false (by omega: ¬(l.length:Int)≤300),cond_false]
   by_cases h3:302<l.length
   ·rw[decide_eq_true h3,decide_eq_true (by omega:(302:Int)<(l.length:Int))];rfl
   ·rw[decide_eq_false h3,decide_eq_false (by omega: ¬(302:Int)<(l.length:Int)),cond_false];simp
 ·rw[decide_eq_false h1,decide_eq_false (by omega: ¬(60:Int)<(l.length:Int)),cond_false,decide_eq_false (by omega: ¬(302:Int)<(l.length:Int)),decide_eq_false (by omega: ¬302<l.length),cond_false]
  simp
theorem PF (hl:l.length≤100000):(ev E).call 30 [LV.cv (CV.sl (aw l))] μ=some (.ret (LV.osl (aw l)) μ):=by
 refine aJ ?_
 have h1:iU (aw l)=true:=by cases l<;>rfl
 rw[U7,h1,show ([]:List CV)=aw []from rfl,p3 (by simp;omega)]
 rfl
end
end Go.Abs
set_option linter.unusedVariables false
set_option linter.unusedSimpArgs false
set_option maxRecDepth 100000
namespace Go.Abs
open Go Go.Proofs
def opV (op:List Nat):List Value:=op.map fun(n:Nat)=>Value.int .i64 (n:Int)
def nW:List Tok→Nat→List Nat→Nat→Nat ⊕(List Nat×Nat)
 |[],_,op,m=> .inr (op,m)
 |t::l,i,op,m=>
  if t.kind=2∧t.text=[40]then nW l (i+1) (op++[i]) (max m (op.length+1))
  else if t.kind=2∧t.text=[41]then(if op.length=0 then .inl i else nW l (i+1) (op.take (op.length-1)) m)
  else nW l (i+1) op m
def US:Nat ⊕(List Nat×Nat)→Nat×Int
 | .inl i=>(i,13)
 | .inr ([],m)=>(m,0)
 | .inr (a::_,m)=>(a,21)
def nX (l:List Tok):Nat×Int:=US (nW l 0 [] 0)
section
variable {μ:Mu}{l:List Tok}
theorem mF (op:List Nat):(opV op).length=op.length:=by simp[opV]
theorem Gg (op:List Nat)(i:Nat):opV op++[Value.int .i64 (i:Int)]=opV (op++[i]):=by simp[opV]
theorem Cf (op:List Nat)(n:Nat):List.take n (opV op)=opV (op.take n):=by simp[opV,List.map_take]
def Tr (μ:Mu):Nat ⊕(List Nat×Nat)→St
 | .inl j=>vd (j:Int) 13 μ
 | .inr q=>pR (opV q.1) (q.2:Int) μ
theorem Sx (hl:l.length≤100000): ∀(k i:Nat) (op:List Nat) (m:Nat),i+k=l.length→op.length≤i→m≤100000→
  ti (ev E) (opV op) (m:Int) (aw l) (l.length:Int) (i:Int) μ=some (Tr μ (nW (l.drop i) i op m)):=by
 intro k
 induction k with
 |zero=>
  intro i op m hi ho hm
  refine ba ?_
  rw[FX,cW (by omega),cond_false,List.drop_eq_nil_of_le (by omega)]
  rfl
 |succ k ih=>
  intro i op m hi ho hm
  refine ba ?_
  have hlt:i<l.length:=by omega
  have hd:l.drop i=l[i]::l.drop (i+1):=List.drop_eq_getElem_cons hlt
  rw[FX,cL hlt,cond_true,iZ hlt,aa,bx,hd,nW,bU (by omega)]
  by_cases h2:(l[i]).kind=2
  ·rw[decide_eq_true h2,Bool.not_true,cond_false]
   by_cases h40:(l[i]).text=[40]
   ·rw[decide_eq_true h40,cond_true,if_pos ⟨h2,h40⟩]
    have e1:max (m:Int) ((opV (op++[i])).length:Int)=((max m (op.length+1):Nat):Int):=by
     rw[mF,List.length_append,List.length_singleton];omega
    rw [show (Nat.beq 1 1 && bd (List.length (opV op) + List.length [Value.int .i64 (i : Int)])) = true by
     rw[mF];simp[bd];omega,ay,Gg,e1,ih (i+1) _ _ (by omega) (by simp;omega) (by omega)]
   ·rw[decide_eq_false h40,cond_false,if_neg (fun e=>h40 e.2)]
    by_cases h41:(l[i]).text=[41]
    ·rw[decide_eq_true h41,cond_true,if_pos ⟨h2,h41⟩,mF]
     by_cases h0:op.length=0
     ·rw[decide_eq_true (by omega:(op.length:Int)=0),cond_true,if_pos h0]
      rfl
     ·rw[decide_eq_false (by omega: ¬(op.length:Int)=0),cond_false,if_neg h0,tP (by omega) (by omega)]
      rw [show (true && decide (0 ≤ ((op.length - 1 : Nat) : Int)) && decide (((op.length - 1 : Nat) : Int) < (op.length : Int))) = true by
       simp;omega,ay,Int.toNat_natCast,Cf,ih (i+1) _ _ (by omega) (by simp;omega) hm]
    ·rw[decide_eq_false h41,cond_false,if_neg (fun e=>h41 e.2),ih (i+1) _ _ (by omega) (by omega) hm]
  ·rw[decide_eq_false h2,Bool.not_false,cond_true,if_neg (fun e=>h2 e.1),if_neg (fun e=>h2 e.1),ih (i+1) _ _ (by omega) (by omega) hm]
theorem Cz (a:Nat)(op:List Nat):bY (List.map CV.v (opV (a::op))) (0:Int)=some (CV.int .i64 (a:Int)):=rfl
theorem TB (hl:l.length≤100000)(hs: ∀t∈l,t.text.length≤200000):(ev E).call 33 [LV.cv (CV.sl (aw l))] μ=
  some (.ret (.ltup (if(gm l).2=0 then [LV.int .i64 ((nX l).1:Int),LV.int .i64 (nX l).2]else [LV.int .i64 0,LV.int .i64 (gm l).2])) μ):=by
 refine aJ ?_
 rw[U8,PP hl hs]
 simp only[ac,aq,aa,ak,am,ah,ae,aj,ay,cond_true,cond_false,Bool.not_true,Bool.not_false,au,ar,ao]
 by_cases he:(gm l).2=0
 ·rw[if_pos he,decide_eq_true he,Bool.not_true,cond_false]
  have hlp:=Sx (μ:=μ) hl l.length 0 [] 0 (by omega) (by simp) (by omega)
  rw[List.drop_zero,show ((0:Nat):Int)=0 from rfl,show opV []=[]from rfl]at hlp
  have hG:Pf (ev E) (aw l) μ=some (mT ((nX l).1:Int) (nX l).2 μ):=by
   refine aT ?_
   rw[QU,dl,hlp,aa]
   unfold nX
   cases hq:nW l 0 [] 0 with
   |inl j=>exact IE _ _ _ _
   |inr q=>
    obtain⟨op,m⟩:=q
    show kS _ _ _ _ (pR (opV op) (m:Int) μ)=_
    rw[IF]
    cases op with
    |nil=>rfl
    |cons a op=>
     rw[show decide ((0:Int)<(List.length (opV (a::op)):Int))=true by rw[mF];simp,cond_true,Cz,aa]
     rfl
  rw[hG,aa,HZ]
 ·rw[if_neg he,decide_eq_false he]
  rfl
def Ts (μ:Mu):Nat ⊕(List Nat×Nat)→St
 | .inl j=>ve (j:Int) 13 μ
 | .inr q=>pS (q.1.length:Int) (q.2:Int) (opV q.1) μ
theorem Sy (hl:l.length≤100000): ∀(k i:Nat) (op:List Nat) (m:Nat),i+k=l.length→op.length≤i→m≤100000→op.length≤m→
  tj (ev E) (aw l) (op.length:Int) (m:Int) (opV op) (i:Int) μ=some (Ts μ (nW (l.drop i) i op m)):=by
 intro k
 induction k with
 |zero=>
  intro i op m hi ho hm hom
  refine ba ?_
  rw[FY,dl,cW (by omega),cond_false,List.drop_eq_nil_of_le (by omega)]
  rfl
 |succ k ih=>
  intro i op m hi ho hm hom
  refine ba ?_
  have hlt:i<l.length:=by omega
  have hd:l.drop i=l[i]::l.drop (i+1):=List.drop_eq_getElem_cons hlt
  rw[FY,dl,cL hlt,cond_true,iZ hlt,aa,bx,hd,nW,bU (by omega),bU (by omega)]
  by_cases h2:(l[i]).kind=2
  ·rw[decide_eq_true h2,Bool.not_true,cond_false,aa,bx]
   by_cases h40:(l[i]).text=[40]
   ·rw[decide_eq_true h40,cond_true,if_pos ⟨h2,h40⟩]
    have e1:max (m:Int) ((op.length+1:Nat):Int)=((max m (op.length+1):Nat):Int):=by omega
    rw [show (Nat.beq 1 1 && bd (List.length (opV op) + List.length [Value.int .i64 (i : Int)])) = true by
     rw[mF];simp[bd];omega,ay,Gg,e1]
    have:=ih (i+1) (op++[i]) (max m (op.length+1)) (by omega) (by simp;omega) (by omega) (by simp;omega)
    rw[List.length_append,List.length_singleton]at this
    rw[this]
   ·rw[decide_eq_false h40,cond_false,if_neg (fun e=>h40 e.2)]
    have e2:max (m:Int) (op.length:Int)=(m:Int):=by omega
    by_cases h41:(l[i]).text=[41]
    ·rw[decide_eq_true h41,cond_true,if_pos ⟨h2,h41⟩]
     by_cases h0:op.length=0
     ·rw[decide_eq_true (by omega:(op.length:Int)=0),cond_true,if_pos h0]
      rfl
     ·rw[decide_eq_false (by omega: ¬(op.length:Int)=0),cond_false,if_neg h0]
      have hG:JD (ev E) (aw l) (op.length:Int) (m:Int) (opV op) (i:Int) μ=some (ry (aw l) ((op.length-1:Nat):Int) (m:Int) (opV (op.take (op.length-1))) (i:Int) μ):=by
       refine aT ?_
       rw[Og,mF,tP (by omega) (by omega)]
       rw [show (true && decide (0 ≤ ((op.length - 1 : Nat) : Int)) && decide (((op.length - 1 : Nat) : Int) < (op.length : Int))) = true by
        simp;omega,ay,Int.toNat_natCast,Cf]
      have e3:max (m:Int) ((op.length-1:Nat):Int)=(m:Int):=by omega
      have:=ih (i+1) (op.take (op.length-1)) m (by omega) (by simp;omega) hm (by simp;omega)
      rw[List.length_take,Nat.min_eq_left (by omega)]at this
      rw[hG,aa,DM,e3,bU (by omega),this]
    ·rw[decide_eq_false h41,cond_false,if_neg (fun e=>h41 e.2),e2,ih (i+1) _ _ (by omega) (by omega) hm hom]
  ·rw[decide_eq_false h2,Bool.not_false,cond_true,if_neg (fun e=>h2 e.1),if_neg (fun e=>h2 e.1),ih (i+1) _ _ (by omega) (by omega) hm hom]
theorem TC (hl:l.length≤100000):(ev E).call 34 [LV.cv (CV.sl (aw l))] μ=some (.ret (.ltup [LV.int .i64 ((nX l).1:Int),LV.int .i64 (nX l).2]) μ):=by
 refine aJ ?_
 have hlp:=Sy (μ:=μ) hl l.length 0 [] 0 (by omega) (by simp) (by omega) (by simp)
 rw[List.drop_zero,show ((0:Nat):Int)=0 from rfl,show opV []=[]from rfl,show (([]:List Nat).length:Int)=0 from rfl]at hlp
 rw[U9,hlp,aa]
 unfold nX
 cases hq:nW l 0 [] 0 with
 |inl j=>exact IG _ _ _ _
 |inr q=>
  obtain⟨op,m⟩:=q
  show kB _ _ _ _ (pS (op.length:Int) (m:Int) (opV op) μ)=_
  rw[IH]
  cases op with
  |nil=>rfl
  |cons a op=>
   rw[show decide ((0:Int)<(List.length (a::op):Int))=true by simp,cond_true,Cz,aa]
   rfl
def sC (t:Tok):Bool:=decide (t.kind=1)&&(decide (t.type=0)||decide (t.type=1))&&decide ((69:UInt8) ∉ t.text)
theorem SH {s:List UInt8}{a b:Int}(hs:s.length≤100000): ∀(k i:Nat),i+k=s.length→GQ (ev E) (i:Int) a b s μ=some (if(69:UInt8)∈s.drop i then vu false μ else vv μ):=by
 intro k
 induction k with
 |zero=>
  intro i hi
  refine ba ?_
  rw[F8,cW (by omega),cond_false,List.drop_eq_nil_of_le (by omega),if_neg (by simp)]
 |succ k ih=>
  intro i hi
  refine ba ?_
  have hlt:i<s.length:=by omega
  have hd:s.drop i=s[i]::s.drop (i+1):=List.drop_eq_getElem_cons hlt
  rw[F8,cL hlt,cond_true,jG,List.getElem?_eq_getElem hlt,aa,bU (by omega),ih (i+1) (by omega),hd]
  by_cases h:s[i]=69
  ·rw[decide_eq_true (by rw[h];rfl:((s[i]).toNat:Int)=69),cond_true,if_pos (by rw[h];simp)]
  ·have h2: ¬((s[i]).toNat:Int)=69:=by
    intro e
    have:(s[i]).toNat=69:=by omega
    exact h (UInt8.toNat_inj.1 (by rw[this];rfl))
   rw[decide_eq_false h2,cond_false]
   by_cases h3:(69:UInt8)∈s.drop (i+1)
   ·rw[if_pos h3,if_pos (List.mem_cons_of_mem _ h3)]
   ·rw[if_neg h3,if_neg (by simp only[List.mem_cons,not_or];exact⟨fun e=>h e.symm,h3⟩)]
theorem TR {t:Tok}(hs:t.text.length≤100000):(ev E).call 83 [LV.cv t.cv] μ=some (.ret (LV.bool (sC t)) μ):=by
 obtain⟨a,b,s⟩:=t
 simp only at hs
 refine aJ ?_
 show aC E (ev E) 83 [LV.cv (CV.agg [CV.int .i64 a,CV.int .i64 b,CV.str s])] μ=_
 have hG:opt (zS (ev E) a b s μ) (kB (ev E) 83 H83 [])=some (.ret (LV.bool (decide ((69:UInt8) ∉ s))) μ):=by
  have:zS (ev E) a b s μ=some (pM (decide ((69:UInt8) ∉ s)) μ):=by
   refine aT ?_
   have:=SH (μ:=μ) (a:=a) (b:=b) hs s.length 0 (by omega)
   rw[List.drop_zero,show ((0:Nat):Int)=0 from rfl]at this
   rw[Q6,this,aa]
   by_cases h:(69:UInt8)∈s
   ·rw[if_pos h,decide_eq_false (by simpa using h)];exact IW _ _ _
   ·rw[if_neg h,decide_eq_true (by simpa using h)];exact IX _ _
  rw[this,aa,Io]
 rw[VA,hG]
 unfold sC
 by_cases h1:a=1
 ·by_cases h0:b=0
  ·simp[h1,h0]
  ·by_cases h2:b=1
   ·simp[h1,h2]
   ·simp[h1,h0,h2]
 ·simp[h1]
theorem je {t u:Tok}(h:VT t):(sC t=true∧(u.text=[69]∨u.text=[68]))↔iK t u:=by
 unfold sC iK
 simp only[Bool.and_eq_true,Bool.or_eq_true,decide_eq_true_eq]
 constructor
 ·rintro⟨⟨⟨h1,h2⟩,h3⟩,h4⟩
  exact⟨h1,h2.imp id fun h=>⟨h,h3⟩,h4⟩
 ·rintro⟨h1,h2,h4⟩
  refine⟨⟨⟨h1,h2.imp id fun h=>h.1⟩,?_⟩,h4⟩
  rcases h2 with h2|h2
  ·have hc:=wc.2 h
   unfold gw dN at hc
   rw[if_pos h1,if_pos h2]at hc
   split at hc
   ·rename_i hf
    intro hm
    have:=(dW hf).2.1 69 hm
    revert this
    decide
   ·exact absurd hc (by decide)
  ·exact h2.2
end
end Go.Abs
set_option linter.unusedVariables false
set_option linter.unusedSimpArgs false
set_option maxRecDepth 100000
namespace Go.Abs
open Go Go.Proofs
section
variable {μ:Mu}{l:List Tok}
theorem S9 {s:List UInt8}:bL (if bp s=0 then LV.cv (CV.sl (aw (bX false s)))else yu)=some (aw (bX false s)):=by
 by_cases ht:bp s=0
 ·rw[if_pos ht];rfl
 ·rw[if_neg ht]
  have hsc:bb false s=⟨[],[],0,bp s⟩:=by unfold bb;rw[if_neg ht]
  have:bX false s=[]:=by unfold bX;rw[hsc];exact if_neg ht
  rw[this];rfl
theorem Sz (hl:l.length≤300)(hv: ∀t∈l,VT t): ∀(k i:Nat) (x:List UInt8),i+k=l.length→x.length≤i*1400→
  GL (ev E) (aw l) x (i:Int) μ=some (kx (x++fN l i) μ):=by
 intro k
 induction k with
 |zero=>
  intro i x hi hx
  refine ba ?_
  rw[FZ,dl,cW (by omega),cond_false,show i=l.length by omega,zx,List.append_nil]
 |succ k ih=>
  intro i x hi hx
  refine ba ?_
  have hlt:i<l.length:=by omega
  have hvt:=hv _ (List.getElem_mem hlt)
  have hvl:=CQ hvt
  have hT: ∀y:List UInt8,y.length≤i*1400+1→
    opt (jL (ev E) (aw l) y (i:Int) μ) (kR (ev E) H35 [.block 1,.seq (cA 35 [1,1,0,1,0,0,1,1])] [(3,0)] (cA 35 [1,1,0,1,0,0]))=some (kx (y++(l[i].text++fN l (i+1))) μ):=by
   intro y hy
   have hG:jL (ev E) (aw l) y (i:Int) μ=some (uP (aw l) (y++l[i].text) (i:Int) μ):=by
    refine aT ?_
    rw[QV,iZ hlt,aa,bx,bq (by omega),ay]
   rw[hG,aa,H0,bU (by omega),ih (i+1) _ (by omega) (by simp;omega),List.append_assoc]
  rw[FZ,dl,cL hlt,cond_true,xB hlt]
  by_cases h0:i=0
  ·subst h0
   rw[decide_eq_false (by omega: ¬(0:Int)<((0:Nat):Int)),cond_false,hT x (by omega)]
   rfl
  ·have h1:i-1<l.length:=by omega
   have hvt1:=hv _ (List.getElem_mem h1)
   have hvl1:=CQ hvt1
   have hsep:kg l i=decide (apB l[i-1] l[i]):=by
    unfold kg
    rw[if_neg h0,List.getElem?_eq_getElem h1,List.getElem?_eq_getElem hlt]
   have hsp:bd (x.length+([32]:List UInt8).length)=true:=bq (by simp;omega)
   have hY:apB l[i-1] l[i]→opt (jL (ev E) (aw l) (x++([32]:List UInt8)) (i:Int) μ) (kR (ev E) H35 [.block 1,.seq (cA 35 [1,1,0,1,0,0,1,1])] [(3,0)] (cA 35 [1,1,0,1,0,0]))=some (kx (x++(ot (kg l i)++(l[i].text++fN l (i+1)))) μ):=by
    intro ha
    rw[hT _ (by simp;omega),hsep,decide_eq_true ha,List.append_assoc]
    rfl
   have hN: ¬apB l[i-1] l[i]→opt (jL (ev E) (aw l) x (i:Int) μ) (kR (ev E) H35 [.block 1,.seq (cA 35 [1,1,0,1,0,0,1,1])] [(3,0)] (cA 35 [1,1,0,1,0,0]))=some (kx (x++(ot (kg l i)++(l[i].text++fN l (i+1)))) μ):=by
    intro ha
    rw[hT _ (by omega),hsep,decide_eq_false ha]
    rfl
   obtain⟨s,hs⟩: ∃s,s=l[i-1].text++l[i].text:=⟨_,rfl⟩
   have hsl:s.length≤200000:=by rw[hs];simp;omega
   rw[decide_eq_true (by omega:(0:Int)<(i:Int)),cond_true,tP (by omega) (by omega),iZ h1,aa,bx,iZ hlt,aa,bx,bq (by omega),ay,←hs,PC hsl]
   simp only[ac,aq,aa,ak,am,ah,ae,aj,ay,cond_true,cond_false,Bool.not_true,Bool.not_false,au,ar,ao]
   rw[S9,aa]
   try simp only[ac,aq,aa,ak,am,ah,ae,aj,ay,cond_true,cond_false,Bool.not_true,Bool.not_false,au,ar,ao]
   by_cases he:(bb false s).e=0
   ·rw[decide_eq_true he,Bool.not_true,cond_false]
    have hso:jF 3 ((i-1:Nat):Int) (aw l)=true:=by
     unfold jF
     split
     ·rfl
     ·exact me l
    have hcut:dk (aw l) ((i-1:Nat):Int) ((i+1:Nat):Int)=some (aw [l[i-1],l[i]]):=by
     rw[eT (by omega) (by rw[dl];omega)]
     congr 1
     unfold aw
     rw[←List.map_drop,←List.map_take]
     congr 1
     rw[List.drop_eq_getElem_cons h1,show i+1-(i-1)=2 by omega,List.take_succ_cons,show i-1+1=i by omega,List.drop_eq_getElem_cons hlt,List.take_succ_cons,List.take_zero]
    rw[hso,ay,bU (by omega),hcut,aa,PD (by have:=OQ (s:=s) (fx:=false);omega)]
    simp only[ac,aq,aa,ak,am,ah,ae,aj,ay,cond_true,cond_false,Bool.not_true,Bool.not_false,au,ar,ao]
    by_cases hq:bX false s=[l[i-1],l[i]]
    ·rw[decide_eq_true hq,Bool.not_true,cond_false,bx,show CV.agg [CV.int .i64 (l[i-1]).kind,CV.int .i64 (l[i-1]).type,CV.str (l[i-1]).text]=(l[i-1]).cv from rfl,TR (by omega)]
     simp only[ac,aq,aa,ak,am,ah,ae,aj,ay,cond_true,cond_false,Bool.not_true,Bool.not_false,au,ar,ao]
     have hns: ∀(hn: ¬iK l[i-1] l[i]),¬apB l[i-1] l[i]:=by
      intro hn ha
      rcases ha with h|h
      ·exact hn h
      ·exact h (by rw[←hs];exact⟨he,hq⟩)
     cases ho:sC l[i-1]with
     |false=>
      rw[cond_false]
      refine hN (hns fun h=> ?_)
      have:=((je (u:=l[i]) hvt1).2 h).1
      rw[ho]at this;cases this
     |true=>
      rw[cond_true,bx]
      by_cases h69:(l[i]).text=[69]
      ·rw[decide_eq_true h69,cond_true,hsp,ay]
       exact hY (Or.inl ((je hvt1).1 ⟨ho,Or.inl h69⟩))
      ·rw[decide_eq_false h69,cond_false,bx]
       by_cases h68:(l[i]).text=[68]
       ·rw[decide_eq_true h68,cond_true,hsp,ay]
        exact hY (Or.inl ((je hvt1).1 ⟨ho,Or.inr h68⟩))
       ·rw[decide_eq_false h68,cond_false]
        refine hN (hns fun h=> ?_)
        rcases((je (u:=l[i]) hvt1).2 h).2 with h|h
        ·exact h69 h
        ·exact h68 h
    ·rw[decide_eq_false hq,Bool.not_false,cond_true,hsp,ay]
     exact hY (Or.inr (by rw[←hs];exact fun e=>hq e.2))
   ·rw[decide_eq_false he,Bool.not_false,cond_true,hsp,ay]
    exact hY (Or.inr (by rw[←hs];exact fun e=>he e.1))
theorem TD (hl:l.length≤300)(hv: ∀t∈l,VT t):(ev E).call 35 [LV.cv (CV.sl (aw l))] μ=some (.ret (LV.str (bQ l)) μ):=by
 refine aJ ?_
 have:=Sz (μ:=μ) hl hv l.length 0 [] (by omega) (by simp)
 rw[List.nil_append,show fN l 0=bQ l from rfl,show ((0:Nat):Int)=0 from rfl]at this
 rw[Va,this,aa,II]
theorem FD (hf:rY l=true):(l.length≤60∨(300<l.length∧l.length≤302))∧ ∀t∈l,t.text.length≤130:=by
 unfold rY at hf
 rw[Bool.and_eq_true,List.all_eq_true]at hf
 refine⟨?_,fun t ht=>by simpa using hf.2 t ht⟩
 have:=hf.1
 simp only[Bool.not_eq_true',Bool.or_eq_false_iff,Bool.and_eq_false_iff,decide_eq_false_iff_not]at this
 omega
theorem Si (hl:l.length≤maxLen):(ev E).call 20 [LV.cv (CV.sl (aw l))] μ=some (.ret (LV.bool (rY l)) μ):=by
 by_cases h:l.length≤100000
 ·exact Tz h
 ·have hf:rY l=false:=by
   cases hq:rY l with
   |false=>rfl
   |true=>have:=(FD hq).1;omega
  rw[hf]
  refine aJ ?_
  rw[SQ,dl,decide_eq_true (by omega:(60:Int)<(l.length:Int)),cond_true,decide_eq_false (by omega: ¬(l.length:Int)≤300),cond_false,decide_eq_true (by omega:(302:Int)<(l.length:Int))]
  rfl
theorem UU (hl0:l.length≤maxLen):(ev E).call 9 [LV.cv (CV.sl (aw l))] []=some (.ret (LV.bool true) []):=by
 refine aJ ?_
 rw[nf9,Tt]
 simp only[ac,aq,aa,ak,am,ah,ae,aj,ay,cond_true,cond_false,Bool.not_true,Bool.not_false,au,ar,ao]
 have hG:RD (ev E) (aw l) []=some (tr true []):=by
  refine aT ?_
  rw[ST,Si hl0]
  simp only[ac,aq,aa,ak,am,ah,ae,aj,ay,cond_true,cond_false,Bool.not_true,Bool.not_false,au,ar,ao]
  cases hf:rY l with
  |false=>rfl
  |true=>
   rw[Bool.not_true,cond_false]
   obtain⟨hlen,ht⟩:=FD hf
   have hl:l.length≤302:=by omega
   have hG5:RE (ev E) (aw l) []=some (jt true []):=by
    refine aT ?_
    rw[SU,PF (by omega)]
    simp only[ac,aq,aa,ak,am,ah,ae,aj,ay,cond_true,cond_false,Bool.not_true,Bool.not_false,au,ar,ao]
    rw[TA (by omega) (fun t h=>by have:=ht t h;omega)]
    simp only[ac,aq,aa,ak,am,ah,ae,aj,ay,cond_true,cond_false,Bool.not_true,Bool.not_false,au,ar,ao]
    rw[PF (by omega)]
    simp only[ac,aq,aa,ak,am,ah,ae,aj,ay,cond_true,cond_false,Bool.not_true,Bool.not_false,au,ar,ao]
    rw[TB (by omega) (fun t h=>by have:=ht t h;omega)]
    unfold wS
    by_cases he:(gm l).2=0
    ·obtain⟨h300,hv⟩:=BH.1 he
     have h60:l.length≤60:=by omega
     rw[if_pos he,if_pos he]
     simp only[ac,aq,aa,ak,am,ah,ae,aj,ay,cond_true,cond_false,Bool.not_true,Bool.not_false,au,ar,ao]
     rw[PE (by omega) (fun t h=>by have:=ht t h;omega)]
     simp only[ac,aq,aa,ak,am,ah,ae,aj,ay,cond_true,cond_false,Bool.not_true,Bool.not_false,au,ar,ao]
     rw[decide_eq_true he,Bool.not_true,cond_false]
     have hG10:Pr (ev E) (aw l) (if 1320<(bQ l).length then([],8)else(bQ l,0):List UInt8×Int).1 (if 1320<(bQ l).length then([],8)else(bQ l,0):List UInt8×Int).2 ((nX l).1:Int) (nX l).2 []=some (mU true []):=by
      refine aT ?_
      rw[Q8,TC (by omega)]
      simp only[ac,aq,aa,ak,am,ah,ae,aj,ay,cond_true,cond_false,Bool.not_true,Bool.not_false,au,ar,ao,decide_true]
      have hG13:Ps (ev E) (aw l) (if 1320<(bQ l).length then([],8)else(bQ l,0):List UInt8×Int).1 (if 1320<(bQ l).length then([],8)else(bQ l,0):List UInt8×Int).2 []=some (mV true []):=by
       refine aT ?_
       rw[Q9,TD h300 hv]
       simp only[ac,aq,aa,ak,am,ah,ae,aj,ay,cond_true,cond_false,Bool.not_true,Bool.not_false,au,ar,ao]
       by_cases hj:1320<(bQ l).length
       ·rw[if_pos hj,decide_eq_true (by omega:(1320:Int)<((bQ l).length:Int))]
        rfl
       ·rw[if_neg hj,decide_eq_false (by omega: ¬(1320:Int)<((bQ l).length:Int)),cond_false]
        have hG16:Pt (ev E) (aw l) (bQ l) (0:Int) (bQ l) []=some (mW true []):=by
         refine aT ?_
         rw[Ra]
         simp only[ac,aq,aa,ak,am,ah,ae,aj,ay,cond_true,cond_false,Bool.not_true,Bool.not_false,au,ar,ao,decide_true]
         have hG18:Pu (ev E) (aw l) (bQ l) []=some (pQ true []):=by
          refine aT ?_
          obtain⟨s1,s2⟩:=zt hv h300 (by omega)
          rw[Rb,Ty (by omega),s1,s2]
          simp only[ac,aq,aa,ak,am,ah,ae,aj,ay,cond_true,cond_false,Bool.not_true,Bool.not_false,au,ar,ao,decide_true]
          rw[PD (by omega)]
          simp only[ac,aq,aa,ak,am,ah,ae,aj,ay,cond_true,cond_false,Bool.not_true,Bool.not_false,au,ar,ao,decide_true]
         rw[hG18,aa,Iu]
        rw[hG16,aa,It]
      rw[hG13,aa,Ir]
     rw[hG10,aa,Iq]
    ·rw[if_neg he,if_neg he]
     simp only[ac,aq,aa,ak,am,ah,ae,aj,ay,cond_true,cond_false,Bool.not_true,Bool.not_false,au,ar,ao]
     rw[PE (by omega) (fun t h=>by have:=ht t h;omega)]
     simp only[ac,aq,aa,ak,am,ah,ae,aj,ay,cond_true,cond_false,Bool.not_true,Bool.not_false,au,ar,ao]
     rw[decide_eq_false he]
     simp only[decide_true,Bool.not_false,cond_true]
   rw[hG5,aa,L9]
 rw[hG,aa,L8]
end
end Go.Abs
set_option linter.unusedVariables false
set_option linter.unusedSimpArgs false
set_option maxRecDepth 100000
set_option maxHeartbeats 1000000
namespace Go.Abs
open Go Go.Proofs Go.RowKit
theorem sizeBuilder:(Tryz.prog.info? 103).map (·.size)=some 2:=by kernel_rfl
theorem liesBuilder:liesAt Tryz.prog Tryz.prog.depth 103 (2 / Tryz.prog.cellsOf 103) 0 103 1=true:=by kernel_rfl
theorem Kj (b:Nat)(w:World)(h0:w.cell? ⟨b,0,none⟩=some (.pointer (some ⟨b,0,none⟩))):
  Calls Tryz.prog 116 #[.pointer (some ⟨b,0,none⟩)] w fun e w'=>e= .returned (.tuple #[])∧w'=w:=by
 obtain⟨j,hj,_⟩:=Option.map_eq_some_iff.1 sizeBuilder
 go_enter Tryz.func116,Tryz.ntmps116
 go_wp2
 rw[Lib.run_neq_ptr_same w _ Tryz.underlying100 hj]
 go_wp2
 go_end0
 exact⟨rfl,rfl⟩
theorem G9 (b:Nat)(w:World)(h0:w.cell? ⟨b,0,none⟩=some (.pointer none))(hsh:w.shape? b=some (103,2))(hfz:w.frozen? ⟨b,0,none⟩=false):
  Calls Tryz.prog 116 #[.pointer (some ⟨b,0,none⟩)] w fun e w'=>e= .returned (.tuple #[])∧w'=w.setCell ⟨b,0,none⟩ (.pointer (some ⟨b,0,none⟩)):=by
 obtain⟨j,hj,hjs⟩:=Option.map_eq_some_iff.1 sizeBuilder
 go_enter Tryz.func116,Tryz.ntmps116
 go_wp2
 rw[Lib.run_to_unsafe w ⟨b,0,none⟩ Tryz.underlying100 Tryz.underlying159 hj (by rw[hjs];decide) hsh (Nat.zero_lt_succ 1)]
 simp only[Result.andThen]
 rw[Oper.upon_value]
 go_wp2
 rw[run_callFunc_extern Tryz.func146 (by kernel_rfl) (by kernel_rfl) (by kernel_rfl) (e:=Extern.AbiNoEscape.same) (by kernel_rfl)]
 rw[Lib.run_noEscape]
 simp only[Result.andThen]
 rw[Oper.upon_value]
 go_wp2
 rw[Lib.run_from_unsafe w ⟨b,0,none⟩ Tryz.underlying159 Tryz.underlying100 hj hsh liesBuilder]
 simp only[Result.andThen]
 rw[Oper.upon_value]
 go_wp2
 go_end0
 exact⟨rfl,rfl⟩
theorem MP {b:Nat}{w:World}{p:Option Addr}{v:Value}(h0:w.cell? ⟨b,0,none⟩=some v)(hfz:w.frozen? ⟨b,0,none⟩=false):(storeVar 100 ⟨b,0,none⟩ (.pointer p)).run Tryz.prog w= .ok () (w.setCell ⟨b,0,none⟩ (.pointer p)):=by
 simp[storeVar,Tryz.sizeOf100,storeCells,Value.cells,run_store_pointer,stored,h0,hfz,Addr.add]
section
variable {W0 w:World}{G:Gh}{L:Nat}{μ:Mu}
theorem Rel.ret {args:List LV}{cargs:Array Value}{v:LV}{cv:Value}(R:Rel G L (aN args) μ cargs w)(hv:LVR G w L 0 v cv)(hno: ∀b,¬aE v cv b):
  Rel G L (aN [v]) μ #[cv] w∧(∀b,az G w (aN [v]) μ #[cv] b→az G w (aN args) μ cargs b):=by
 have hob: ∀lev i,aD (μ++[(aN [v]).lam]) lev i=aD (μ++[(aN args).lam]) lev i:=fun _ _=>rfl
 have hown: ∀q b,ax G w (aN [v]).fr #[cv] (μ++[(aN [v]).lam]) q b→ax G w (aN args).fr cargs (μ++[(aN args).lam]) q b:=by
  intro q b h
  cases q with
  |fr t=>
   exfalso
   simp only[ax,cz]at h
   cases t with
   |zero=>exact hno b h
   |succ t=>simp[aE]at h
  |ob lev i k=>exact h
 refine⟨⟨R.lev,fun t=> ?_,R.lam,R.mu,R.inj,fun q q' b h h'=>R.own q q' b (hown q b h) (hown q' b h'),fun q b lev i h h'=>R.apart q b lev i (hown q b h) h',R.nlt,R.nL,R.ngt⟩,fun b h=> ?_⟩
 ·rw[cz]
  cases t with
  |zero=>exact hv
  |succ t=>simp[LVR,VR]
 ·rcases h with⟨q,h⟩|h
  ·exact .inl ⟨q,hown q b h⟩
  ·exact .inr h
structure Bld (G:Gh) (L:Nat) (μ:Mu) (w:World) (lev i:Nat) (a b:LV) (cur:Array Value) (fz:Nat×Nat):Prop where
 lt:lev<L
 live:a8 μ lev i= .cells [a,b]
 heap:w.heap[G.β lev i]? =some (.cells cur 103 fz)
 size:cur.size=2
 unf:d7 cur fz
 O:G.O (G.β lev i)=0
 va:LVR (G.below lev) w lev 0 a (cur.getD 0 undef)
 vb:LVR (G.below lev) w lev 0 b (cur.getD 1 undef)
theorem Kb {args:List LV}{cargs:Array Value}{lev i:Nat}{a b:LV}(R:Rel G L (aN args) μ cargs w)(ha:args[0]? =some (.cv (.tref lev i 103 2)))(hob:a8 μ lev i= .cells [a,b]):
  ∃cur fz,Bld G L μ w lev i a b cur fz∧i<G.n lev∧cargs.getD 0 undef= .pointer (some ⟨G.β lev i,0,none⟩):=by
 have h0:=R.fr 0
 rw[cz,ha]at h0
 simp only[Option.getD_some,LVR,VR]at h0
 obtain⟨h1,h2,cur,fz,h3,h4⟩:=h0
 have hlt:lev<L:=by
  rcases Nat.lt_trichotomy lev L with h|h|h
  ·exact h
  ·subst h
   have:=R.nL
   simp[aN]at this
   omega
  ·have:=R.ngt lev h
   omega
 have hm:=R.mu lev i hlt
 rw[hob]at hm
 simp only[ObR]at hm
 obtain⟨cur2,e2,fz2,k1,k2,k3,k4,k5⟩:=hm
 rw[h3]at k1
 obtain⟨rfl,rfl,rfl⟩:=(Obj.cells.injEq ..).mp (Option.some.inj k1)
 exact⟨cur,fz,⟨hlt,hob,h3,h4,k2,k3,k5 0 a rfl,k5 1 b rfl⟩,h1,h2⟩
theorem AY {cargs:Array Value}{v:Value}(hs:cargs.size=1)(hv:cargs.getD 0 undef=v):cargs= #[v]:=by
 apply Array.ext
 ·simpa using hs
 ·intro j h1 h2
  have:j=0:=by omega
  subst this
  rw[Array.getD_eq_getD_getElem?,Array.getElem?_eq_getElem h1]at hv
  simpa using hv
theorem Me {lev i:Nat}{o:Ob}{args:List LV}(hlt:lev<μ.length)(h:a8 μ lev i=o):aD (μ++[(aN args).lam]) lev i=o:=by
 rw[←h]
 exact bz hlt
theorem Tq {b:Nat}{cur:Array Value}{e:TypeId}{fz:Nat×Nat}{k:Nat}(h:w.heap[b]? =some (.cells cur e fz))(hk:k<cur.size):w.cell? ⟨b,k,none⟩=some (cur.getD k undef):=by
 unfold World.cell?
 simp only[h]
 simp[Array.getD_eq_getD_getElem?,hk]
theorem Qt {b:Nat}{cur:Array Value}{e:TypeId}{fz:Nat×Nat}{k:Nat}(h:w.heap[b]? =some (.cells cur e fz))(hk:k<cur.size)(hu:d7 cur fz):w.frozen? ⟨b,k,none⟩=false:=by
 have:=hu k hk
 unfold World.frozen?
 simp only[h]
 simp
 omega
theorem Cb {args:List LV}{out:Out}(h:iE 103 args μ=some out):cG E.P W0 116 args μ out:=by
 unfold iE at h
 obtain⟨q,hq,h2⟩:=bA h
 clear h
 obtain⟨u,hu,h⟩:=bA h2
 clear h2
 have hargs:args=[q.1]:=by rw[dT hq,gl hu]
 rw[hargs]
 clear hargs hq hu
 obtain⟨x,y⟩:=q
 simp only at h ⊢
 split at h<;>try(cases h;done)
 rename_i lev i t n
 obtain⟨hg,h2⟩:=dF h
 clear h
 rw[Bool.and_eq_true]at hg
 have ht:=Nat.eq_of_beq_eq_true hg.1
 have hn:=Nat.eq_of_beq_eq_true hg.2
 subst ht hn
 refine⟨c6 Tryz.func116 rfl (by kernel_rfl),fun G w cargs hs R hkn=> ?_⟩
 split at h2<;>try(cases h2;done)
 rename_i a b hob
 obtain⟨cur,fz,B,hin,hc0⟩:=Kb R rfl hob
 have hca:=AY (by simpa using hs) hc0
 have hlt:lev<μ.length:=B.lt
 have hcell:=Tq (w:=w) B.heap (k:=0) (by rw[B.size];omega)
 split at h2<;>try(cases h2;done)
 ·
  injection h2 with h
  subst h
  have hva:=B.va
  simp only[LVR,VR]at hva
  rw[hva]at hcell
  have hfr:=Qt (w:=w) B.heap (k:=0) (by rw[B.size];omega) B.unf
  have hsh:w.shape? (G.β lev i)=some (103,2):=by
   unfold World.shape?
   simp only[B.heap,B.size]
  have hset:bD μ lev i (.cells [.cv (.ref lev i 0),b])++[(aN [LV.cv (CV.tref lev i 103 2)]).lam]=bD (μ++[(aN [LV.cv (CV.tref lev i 103 2)]).lam]) lev i (.cells [.cv (.ref lev i 0),b]):=(lM hlt).symm
  obtain⟨w',hrun,R2,E2⟩:=R.writeOb (P:=Tryz.prog) (t:=100) (s1:=aN [LV.cv (CV.tref lev i 103 2)]) (μ1:=bD μ lev i (.cells [.cv (.ref lev i 0),b])) (lev:=lev) (i:=i) (off:=0) (v:= .cv (.ref lev i 0)) (cv:= .pointer (some ⟨G.β lev i,0,none⟩)) (o':= .cells [.cv (.ref lev i 0),b])
   (Ext.refl G w fun b h=>h) (Me hlt hob) (by kernel_rfl)
   ⟨fun e=>absurd e (Nat.ne_of_lt hlt),fun _=>by simp only[LVR,VR,Gh.below];exact⟨by simpa using hin,trivial⟩⟩
   (fun b hb=>by simp[aE]at hb) rfl rfl rfl ib.1 hset
  have hw:w'=w.setCell ⟨G.β lev i,0,none⟩ (.pointer (some ⟨G.β lev i,0,none⟩)):=by
   have h1:=MP (p:=some ⟨G.β lev i,0,none⟩) hcell hfr
   rw[hrun]at h1
   injection h1
  rw[hca]
  refine(G9 (G.β lev i) w hcell hsh hfr).mono fun e w2 ⟨h1,h2⟩=> ?_
  subst h1
  rw[←hw]at h2
  subst h2
  obtain⟨R3,hT⟩:=R2.ret (v:= .ltup []) (cv:= .tuple #[]) ⟨#[],rfl,rfl⟩ (fun b h=>by simp[aE]at h)
  exact⟨G.O,R3,hca▸E2.weaken (fun _ h=>h) fun b hb=>hT b hb⟩
 ·
  rename_i l j
  obtain⟨hg2,h3⟩:=dF h2
  rw[Bool.and_eq_true]at hg2
  have hl:=Nat.eq_of_beq_eq_true hg2.1
  have hj:=Nat.eq_of_beq_eq_true hg2.2
  subst hl hj
  injection h3 with h
  subst h
  have hva:=B.va
  simp only[LVR,VR]at hva
  rw[hva.2]at hcell
  rw[hca]
  refine(Kj (G.β l j) w hcell).mono fun e w2 ⟨h1,h2⟩=> ?_
  subst h1 h2
  obtain⟨R3,hT⟩:=R.ret (v:= .ltup []) (cv:= .tuple #[]) ⟨#[],rfl,rfl⟩ (fun b h=>by simp[aE]at h)
  exact⟨G.O,R3,Ext.refl G _ (hca▸hT)⟩
end
theorem Es {b g cap:Nat}{l:List UInt8}{p:Value}{fzb:Nat×Nat}{cur:Array Value}{w:World}(hbk:w.heap[b]? =some (.cells #[p,.slice (some ⟨g,0,none⟩) l.length cap] 103 fzb))(h0:l≠[])(hg:w.heap[g]? =some (.cells cur 5 (0,0)))
  (hnc:l.length≤cap) (hcm:cap≤maxLen) (hsz:l.length≤cur.size) (hcells: ∀(j:Nat) x,l[j]? =some x→w.cell? ⟨g,j,none⟩=some (.int .u8 x.toNat)):
  Calls Tryz.prog 77 #[.pointer (some ⟨b,0,none⟩)] w fun e w'=>e= .returned (.string ⟨l.toArray⟩)∧w'=w.drew.freeze ⟨g,0,none⟩ l.length:=by
 have hl0:l.length≠0:=by simpa using h0
 have c1:w.drew.cell? ⟨b,1,none⟩=some (.slice (some ⟨g,0,none⟩) l.length cap):=by
  have:w.drew.heap[b]? =some (.cells #[p,.slice (some ⟨g,0,none⟩) l.length cap] 103 fzb):=hbk
  rw[Lib.cell_of_heap this];rfl
 have hSD:(Builtin.unsafeSliceData_ #[101] 137 #[.slice (some ⟨g,0,none⟩) l.length cap]).run Tryz.prog w.drew= .ok (.pointer (some ⟨g,0,none⟩)) w.drew:=
  Lib.run_unsafeSliceData_row _ _ _ _ _ _ (by omega)
 have hUS:(Builtin.unsafeString_ #[137,3] 9 #[.pointer (some ⟨g,0,none⟩),.int .i64 l.length]).run Tryz.prog w.drew= .ok (.string ⟨l.toArray⟩) (w.drew.freeze ⟨g,0,none⟩ l.length):=by
  refine Lib.run_unsafeString_row w.drew 137 3 9 5 Tryz.underlying137 Tryz.Builder_Extra_169.cellsByte g cur.size (by have hg':w.drew.heap[g]? =some (.cells cur 5 (0,0)):=hg;simp[World.shape?,hg']) l h0 (by omega) (by unfold maxLen at hcm;omega) ?_
  intro j x hx
  have:=hcells j x hx
  by_cases hj:j=0
  ·subst hj;simpa[Addr.add]using this
  ·simpa[Addr.add,hj]using this
 go_enter Tryz.func77,Tryz.ntmps77
 go_wp2
 go_region
 all_goals(go_wp2;go_ret;exact⟨rfl,rfl⟩)
theorem Jo {b:Nat}{p:Value}{fzb:Nat×Nat}{w:World}(hbk:w.heap[b]? =some (.cells #[p,.slice none 0 0] 103 fzb)):
  Calls Tryz.prog 77 #[.pointer (some ⟨b,0,none⟩)] w fun e w'=>e= .returned (.string ⟨#[]⟩)∧w'=w.drew:=by
 have hUS: ∀W q,(Builtin.unsafeString_ #[137,3] 9 #[.pointer q,.int .i64 0]).run Tryz.prog W= .ok (.string .empty) W:=fun W q=>Lib.run_unsafeString_none W _ _ _ q
 have c1:w.drew.cell? ⟨b,1,none⟩=some (.slice none 0 0):=by
  have:w.drew.heap[b]? =some (.cells #[p,.slice none 0 0] 103 fzb):=hbk
  rw[Lib.cell_of_heap this];rfl
 have hSD:(Builtin.unsafeSliceData_ #[101] 137 #[.slice none 0 0]).run Tryz.prog w.drew= .ok (.pointer none) w.drew:=rfl
 go_enter Tryz.func77,Tryz.ntmps77
 go_wp2
 go_region
 all_goals(go_wp2;go_ret;exact⟨rfl,rfl⟩)
theorem Et {b g:Nat}{p:Value}{fzb:Nat×Nat}{cur:Array Value}{e:TypeId}{w:World}(hbk:w.heap[b]? =some (.cells #[p,.slice (some ⟨g,0,none⟩) 0 0] 103 fzb))(hg:w.heap[g]? =some (.cells cur e (0,0))):
  Calls Tryz.prog 77 #[.pointer (some ⟨b,0,none⟩)] w fun e w'=>e= .returned (.string ⟨#[]⟩)∧w'=w.drew.alloc (.view ⟨g,0,none⟩ 5):=by
 have hUS: ∀W q,(Builtin.unsafeString_ #[137,3] 9 #[.pointer q,.int .i64 0]).run Tryz.prog W= .ok (.string .empty) W:=fun W q=>Lib.run_unsafeString_none W _ _ _ q
 have hlt:b<w.heap.size:=by
  rcases Nat.lt_or_ge b w.heap.size with h'|h'
  ·exact h'
  ·simp[Array.getElem?_eq_none h']at hbk
 have c1:w.drew.cell? ⟨b,1,none⟩=some (.slice (some ⟨g,0,none⟩) 0 0):=by
  have:w.drew.heap[b]? =some (.cells #[p,.slice (some ⟨g,0,none⟩) 0 0] 103 fzb):=hbk
  rw[Lib.cell_of_heap this];rfl
 have hSD:(Builtin.unsafeSliceData_ #[101] 137 #[.slice (some ⟨g,0,none⟩) 0 0]).run Tryz.prog w.drew= .ok (.pointer (some ⟨w.drew.heap.size,0,none⟩)) (w.drew.alloc (.view ⟨g,0,none⟩ 5)):=
  Lib.run_unsafeSliceData_zero w.drew _ _ 5 Tryz.underlying137 ⟨g,0,none⟩ 0 (e,cur.size) (by have hg':w.drew.heap[g]? =some (.cells cur e (0,0)):=hg;simp[World.shape?,hg'])
 have c2:(w.drew.alloc (.view ⟨g,0,none⟩ 5)).cell? ⟨b,1,none⟩=some (.slice (some ⟨g,0,none⟩) 0 0):=by
  have:(w.drew.alloc (.view ⟨g,0,none⟩ 5)).heap[b]? =_:=(Lib.alloc_old w.drew _ b hlt).trans hbk
  rw[Lib.cell_of_heap this];rfl
 have c3:(w.alloc (.view ⟨g,0,none⟩ 5)).drew.cell? ⟨b,1,none⟩=some (.slice (some ⟨g,0,none⟩) 0 0):=c2
 have c0:w.cell? ⟨b,1,none⟩=some (.slice (some ⟨g,0,none⟩) 0 0):=c1
 go_enter Tryz.func77,Tryz.ntmps77
 go_wp2
 go_region
 all_goals(go_wp2;go_ret;exact⟨rfl,rfl⟩)
section
variable {W0 w:World}{G:Gh}{L:Nat}{μ:Mu}
theorem sJ {args:List LV}{cargs:Array Value}{μ':Mu}{G':Gh}{w':World}{T:Nat→Prop}{v:LV}{cv:Value}(R1:Rel G L (aN args) μ' cargs w)(hT1: ∀b,az G w (aN args) μ' cargs b→T b)(hle:Le G w G' w')
  (hfr: ∀b,az G w (aN args) μ' cargs b→w'.heap[b]? =w.heap[b]? ∧G'.O b=G.O b) (hG:G'=G.withO G'.O) (ho:w'.os=w.os) (ht:w'.tape=w.tape) (hu:w'.output=w.output) (hs:w.heap.size≤w'.heap.size)
  (hkeep: ∀b,b<w.heap.size→ ¬T b→w'.heap[b]? =w.heap[b]? ∧G'.O b=G.O b) (hv:LVR G' w' L 0 v cv) (hno: ∀b,¬aE v cv b):ff L T G w (.ret v μ') (.returned cv) w':=by
 have hβ: ∀lev i,G'.β lev i=G.β lev i∧G'.sz lev i=G.sz lev i:=by intro lev i;rw[hG];exact⟨rfl,rfl⟩
 have hn:G'.n=G.n:=by rw[hG];rfl
 obtain⟨R2,hO2⟩:=R1.frame hle hfr (fun lev i _=>hβ lev i) hn
 obtain⟨R3,hT3⟩:=R2.ret hv hno
 have htouch: ∀b,az G' w' (aN [v]) μ' #[cv] b→T b:=by
  intro b hb
  rcases hT3 b hb with⟨q,h⟩|⟨lev,i,h,e⟩
  ·exact hT1 b (.inl ⟨q,hO2 q b h⟩)
  ·exact hT1 b (.inr ⟨lev,i,h,by rw[←(hβ lev i).1];exact e⟩)
 refine⟨G'.O,?_,?_⟩
 ·rw[←hG];exact R3
 ·rw[←hG]
  exact⟨hle,ho,ht,hu,hs,hkeep,fun b hb=> .inl (htouch b hb),fun l _=>⟨fun i=>hβ l i,by rw[hn]⟩⟩
theorem Dc {g n:Nat}{cur:Array Value}{e:TypeId}{fz:Nat×Nat}(hg:w.heap[g]? =some (.cells cur e fz)):
  (∀b,b≠g→(w.drew.freeze ⟨g,0,none⟩ n).heap[b]? =w.heap[b]?)∧(∃fz',(w.drew.freeze ⟨g,0,none⟩ n).heap[g]? =some (.cells cur e fz'))∧(w.drew.freeze ⟨g,0,none⟩ n).os=w.os∧(w.drew.freeze ⟨g,0,none⟩ n).tape=w.tape∧(w.drew.freeze ⟨g,0,none⟩ n).output=w.output∧(w.drew.freeze ⟨g,0,none⟩ n).heap.size=w.heap.size:=by
 have hg':w.drew.heap[g]? =some (.cells cur e fz):=hg
 unfold World.freeze
 split
 ·exact⟨fun b _=>rfl,⟨fz,hg'⟩,rfl,rfl,rfl,rfl⟩
 ·refine⟨fun b hb=> ?_,?_,rfl,rfl,rfl,by simp⟩
  ·simp only[Array.getElem?_modify]
   rw[if_neg (fun e=>hb e.symm)]
   rfl
  ·simp only[Array.getElem?_modify,if_true,hg',Option.map_some]
   exact⟨_,rfl⟩
def mZ (l:List UInt8):List CV:=l.map fun(b:UInt8)=>CV.v (.int .u8 (b.toNat:Int))
theorem Kc {l:List UInt8}:(mZ l).length=l.length:=by simp[mZ]
theorem qK: ∀{xs:List CV} {s:List UInt8},bk xs=some s→xs=mZ s
 |[],s,h=>by injection h with h;subst h;rfl
 |x::r,s,h=>by
  unfold bk at h
  split at h
  ·rename_i heq;cases heq
  ·rename_i n r' heq
   injection heq with e1 e2
   subst e1 e2
   split at h
   ·rename_i hd
    obtain⟨l,hl,h2⟩:=bA h
    injection h2 with h2
    subst h2
    have ih:=qK hl
    rw[ih]
    simp only[Bool.and_eq_true,decide_eq_true_eq]at hd
    have hn:((UInt8.ofNat n.toNat).toNat:Int)=n:=by
     rw[UInt8.toNat_ofNat_of_lt' (by show n.toNat<256;omega)]
     omega
    show _=CV.v (.int .u8 ((UInt8.ofNat n.toNat).toNat:Int))::mZ l
    rw[hn]
   ·cases h
  ·cases h
theorem Mf {args:List LV}{out:Out}(h:o2 103 args μ=some out):cG E.P W0 77 args μ out:=by
 unfold o2 at h
 obtain⟨q,hq,h2⟩:=bA h
 clear h
 obtain⟨u,hu,h⟩:=bA h2
 clear h2
 have hargs:args=[q.1]:=by rw[dT hq,gl hu]
 rw[hargs]
 clear hargs hq hu
 obtain⟨x,y⟩:=q
 simp only at h ⊢
 split at h<;>try(cases h;done)
 rename_i lev i t n
 obtain⟨hg,h2⟩:=dF h
 clear h
 rw[Bool.and_eq_true]at hg
 have ht:=Nat.eq_of_beq_eq_true hg.1
 have hn:=Nat.eq_of_beq_eq_true hg.2
 subst ht hn
 refine⟨c6 Tryz.func77 rfl (by kernel_rfl),fun G w cargs hs R hkn=> ?_⟩
 split at h2<;>try(cases h2;done)
 rename_i a b hob
 obtain⟨xs,hxs,h3⟩:=bA h2
 obtain⟨s,hbs,h4⟩:=bA h3
 injection h4 with h4
 subst h4
 obtain⟨cur,fz,B,hin,hc0⟩:=Kb R rfl hob
 have hca:=AY (by simpa using hs) hc0
 have hlt:lev<μ.length:=B.lt
 have hot:=Me (args:=[LV.cv (CV.tref lev i 103 2)]) hlt hob
 have hl:aK (aD (μ++[(aN [LV.cv (CV.tref lev i 103 2)]).lam]) lev i):=by rw[hot];trivial
 obtain⟨R1,_,hT,hO1,hO2,hlv⟩:=R.setOb (s1:=aN [LV.cv (CV.tref lev i 103 2)]) (μ1:=bD μ lev i .dead) (o':= .dead) (cur':=cur) hl B.heap rfl rfl rfl rfl ib.1 (lM hlt).symm
  (fun G' w' _ _ _=>⟨fun _=>trivial,fun _=>trivial⟩) (fun cs' k b h=>by cases h)
 rw[setRow_self w _ cur 103 fz B.heap]at R1 hT hO1 hO2
 have hT1: ∀b,az G w (aN [LV.cv (CV.tref lev i 103 2)]) (bD μ lev i .dead) cargs b→az G w (aN [LV.cv (CV.tref lev i 103 2)]) μ cargs b:=by
  intro b hb
  rcases hT b hb with h|⟨cs',k,h,_⟩
  ·exact h
  ·cases h
 obtain⟨hown,howns⟩:=iz hxs B.vb
 have hp1: ∃p,w.heap[G.β lev i]? =some (.cells #[p,cur.getD 1 undef] 103 fz):=by
  refine⟨cur.getD 0 undef,?_⟩
  rw[B.heap]
  congr 2
  apply Array.ext
  ·exact B.size
  ·intro j h1 h2
   have hsz:=B.size
   have:j=0∨j=1:=by omega
   rcases this with rfl|rfl
   ·simp[Array.getD_eq_getD_getElem?,hsz]
   ·simp[Array.getD_eq_getD_getElem?,hsz]
 obtain⟨p,hbk⟩:=hp1
 rw[hca]
 rcases hown with⟨hx0,hv0⟩|⟨g,cap,cur2,e2,sz,hv,hg,h1,h2',h3',h4,h5,h6,h7,h8⟩
 ·
  subst hx0
  have hs0:s=[]:=by injection hbs with h;exact h.symm
  subst hs0
  rw[hv0]at hbk
  refine(Jo hbk).mono fun e w2 ⟨k1,k2⟩=> ?_
  subst k1 k2
  rw[←hca]
  exact sJ R1 hT1 ⟨fun _ _ _ h hb=>⟨h,hb⟩,fun _ _ h=>⟨h,rfl,rfl⟩,fun _ _ _ h hc=>⟨h,hc⟩,fun b cur e fz h=>⟨cur,fz,h,rfl⟩⟩ (fun b _=>⟨rfl,rfl⟩) rfl rfl rfl rfl (Nat.le_refl _) (fun b _ _=>⟨rfl,rfl⟩) rfl (fun b h=>by simp[aE]at h)
 ·rw[hv]at hbk
  have hob1:ax G w (aN [LV.cv (CV.tref lev i 103 2)]).fr cargs (μ++[(aN [LV.cv (CV.tref lev i 103 2)]).lam]) (.ob lev i 1) g:=by
   simp only[ax,hot]
   refine⟨cur,103,fz,B.heap,?_⟩
   have:=howns g (by rw[hv];simp[aE])
   exact this
  have hTg:az G w (aN [LV.cv (CV.tref lev i 103 2)]) μ cargs g:= .inl ⟨_,hob1⟩
  have hne: ∀b,az G w (aN [LV.cv (CV.tref lev i 103 2)]) (bD μ lev i .dead) cargs b→b≠g:=by
   intro b hb e
   subst e
   rcases hb with⟨q,hb⟩|⟨l,j,hb,e⟩
   ·rcases hO1 q b hb with h|⟨cs',k,h,_⟩
    ·have hq:=R.own q (.ob lev i 1) b h hob1
     subst hq
     obtain⟨cs',h,_⟩:=hO2 1 b hb
     cases h
    ·cases h
   ·exact R.apart (.ob lev i 1) b l j hob1 (hlv l j hb) e
  by_cases hx0:xs=[]
  ·subst hx0
   have hs0:s=[]:=by injection hbs with h;exact h.symm
   subst hs0
   have hcap:=h5 rfl
   subst hcap
   refine(Et hbk hg).mono fun e w2 ⟨k1,k2⟩=> ?_
   subst k1 k2
   rw[←hca]
   have hle:=po (G:=G) (w:=w.drew) (.view ⟨g,0,none⟩ 5) 0
   have hle2:Le G w (G.setO w.drew.heap.size 0) (w.drew.alloc (.view ⟨g,0,none⟩ 5)):=⟨hle.map,hle.ref,hle.imm,hle.blk⟩
   have hold: ∀b,b<w.heap.size→(w.drew.alloc (.view ⟨g,0,none⟩ 5)).heap[b]? =w.heap[b]? ∧(G.setO w.drew.heap.size 0).O b=G.O b:=fun b hb=>⟨heap_alloc_old w.drew _ hb,bR (Nat.ne_of_lt hb)⟩
   exact sJ R1 hT1 hle2 (fun b hb=>hold b (R1.touch_lt hb)) rfl rfl rfl rfl (by simp[World.alloc]) (fun b hb _=>hold b hb) rfl (fun b h=>by simp[aE]at h)
  ·have he:e2=5:=h8 (by rw[hbs];rfl) hx0
   subst he
   have hxs2:=qK hbs
   have hlen:xs.length=s.length:=by rw[hxs2,Kc]
   have hs0:s≠[]:=by
    intro h
    rw[h]at hlen
    exact hx0 (List.eq_nil_of_length_eq_zero hlen)
   have hsz1:sz=1:=by
    cases xs with
    |nil=>exact absurd rfl hx0
    |cons c r=>
     have:=h4 c List.mem_cons_self
     have hc:c∈mZ s:=by rw[←hxs2];exact List.mem_cons_self
     obtain⟨b,_,rfl⟩:=List.mem_map.1 hc
     exact this.symm
   subst hsz1
   obtain⟨olds,ho1,ho2⟩:=te h6 h4
   have hcells: ∀(j:Nat) x,s[j]? =some x→w.cell? ⟨g,j,none⟩=some (.int .u8 x.toNat):=by
    intro j x hx
    have hflat:xs.flatMap CV.cells=mZ s:=by rw[hxs2];exact p9 s
    rw[hflat]at ho1
    obtain⟨v,hv1,hv2⟩:=(dU ho1).2 j (CV.int .u8 (x.toNat:Int)) (by simp[mZ,hx])
    simp only[VR]at hv2
    subst hv2
    have:=(ho2 j _ hv1).1
    simpa using this
   rw[hlen]at hbk h1
   refine(Es hbk hs0 hg h1 h2' (by omega) hcells).mono fun e w2 ⟨k1,k2⟩=> ?_
   subst k1 k2
   rw[←hca]
   obtain⟨f1,⟨fz',f2⟩,f3,f4,f5,f6⟩:=Dc (n:=s.length) hg
   have hle:Le G w G (w.drew.freeze ⟨g,0,none⟩ s.length):=by
    refine⟨fun b es clk h hb=> ?_,fun _ _ h=>⟨h,rfl,rfl⟩,fun b off v h hc=>⟨h,?_⟩,fun b c e fz h=> ?_⟩
    ·have hb2:b≠g:=fun e=>by subst e;rw[hg]at hb;cases hb
     exact⟨h,by rw[f1 b hb2];exact hb⟩
    ·rw[←hc]
     unfold World.cell?
     by_cases hb2:b=g
     ·subst hb2
      simp only[f2,hg]
     ·simp only[f1 b hb2]
    ·by_cases hb2:b=g
     ·subst hb2
      rw[hg]at h
      obtain⟨rfl,rfl,rfl⟩:=(Obj.cells.injEq ..).mp (Option.some.inj h)
      exact⟨_,fz',f2,rfl⟩
     ·exact⟨c,fz,by rw[f1 b hb2];exact h,rfl⟩
   exact sJ R1 hT1 hle (fun b hb=>⟨f1 b (hne b hb),rfl⟩) rfl f3 f4 f5 (by rw[f6];exact Nat.le_refl _) (fun b _ hn=>⟨f1 b (fun e=>hn (e▸hTg)),rfl⟩) rfl (fun b h=>by simp[aE]at h)
theorem OI (B:Base W0):tq E W0:=by
 intro f g hf args μ out h
 have hp:Je f=some g:=hf
 unfold Je at hp
 split at hp<;>first|(cases hp;done)|skip
 all_goals(injection hp with hp;subst hp)
 all_goals first
  |exact I7 B h
  |exact Rg B h
  |exact Rh B h
  |exact Cc B h
  |exact zL B h
  |exact Ec B h
  |exact Cd B h
  |exact Oy B h
  |exact Ea B h
  |exact SX B h
  |exact Eb B h
  |exact zK B h
  |exact xe h
  |exact Cb h
  |exact Mf h
theorem SP:E.P.follows .mixedOrders=true:=by kernel_rfl
end
end Go.Abs
set_option linter.unusedVariables false
set_option linter.unusedSimpArgs false
set_option maxRecDepth 100000
namespace Go.Proofs.YtfcjjankfjaapaaGreatDoor.TokensJoins
open Go Go.Proofs Go.Abs Go.ChangeShapes Go.WideShapes Go.ChangeAt Go.RowKit Glue
theorem kA (H:Type)(enc:TypeId×Value→H)(W:World)(base:Nat)(args:Array Value)(ds gs:List (DataW H))(before:List MemPlace)
  (hval: ∀(j:Nat) t v,Tryz.f9.params[j]? =some t→args[j]? =some v→Value.okWide Tryz.prog W .any base t v)
  (hW:DataW.Whole enc Tryz.prog Tryz.f9.params.toList Rows.tokensJoinsSpec.vars false W args.toList ds gs before) (hL:laidMetH Tryz.prog Rows.tokensJoinsRow.laid W) (hS:W.ShapedOpen Tryz.prog):
  Calls Tryz.prog 9 args W fun e W'=> ∃v,e= .returned v∧Rows.tokensJoinsSpec.post enc Tryz.prog Tryz.f9 false true false false W args v W':=by
 have hL':laidMet Tryz.prog tA W:=hL
 have B:=AZ hL' hS
 have hW':=hW
 obtain⟨p,q,hA0,hV0,rfl,_,_⟩:=hW
 have hA:DataW.TrodAll enc Tryz.prog W 0 (fun _=>true) true Tryz.f9.params.toList args.toList ds p:=hA0
 rw[Tryz.params9]at hA hval
 obtain⟨v0,vs0,d0,ds0,p0,q0,e0,rfl,rfl,h0,r0⟩:=trodAll_cons hA
 obtain⟨rfl,rfl,rfl⟩:=trodAll_nil r0
 obtain rfl:args= #[v0]:=by cases args;simp_all
 obtain⟨rfl,rfl⟩:=trodVars_none hV0
 obtain⟨c0,V0,I0⟩:=Ga.open_arg (n:=8) (l:=[.sl true [.int .i64,.int .i64,.str]]) (by kernel_rfl) (hval 0 32 v0 rfl rfl) h0
 obtain⟨x0,X0⟩:=Ga.is_toks (t:=32) (by kernel_rfl) I0
 clear hA0 hV0
 simp only[List.append_nil]at hW'
 have hm:cG Tryz.prog W 9 ([c0].map LV.cv) [] (.ret (LV.bool true) []):=by
  refine Bv SP (OI B) ?_
  show (ev E).call 9 [LV.cv c0] []=_
  rw[(X0).1]
  exact UU X0.2
 refine(cG.bool (cargs:= #[v0]) hm rfl (fun j x hx=> ?_)).mono fun e W' ⟨he,hk⟩=> ?_
 ·match j,hx with
  |0,hx=>injection hx with hx;subst hx;exact V0
 ·subst he
  exact⟨_,rfl,Ga.post_true (tb:=4) Qx (by kernel_rfl) Tryz.underlying4 (by kernel_rfl) rfl hW' rfl rfl rfl hk⟩
theorem Ex (os:Os){H:Type}(enc:TypeId×Value→H):
  (OpenSpec.ofChange Rows.tokensJoinsSpec).preRow enc Tryz.prog Tryz.f9 Rows.tokensJoinsRow.domain false Rows.tokensJoinsRow.laid ((g9 os).forCall (fun _ _=>0) ⟨#[],#[.slice none 0 0],[]⟩).memory #[.slice none 0 0]:=by
 have hw:(DataW.whole enc Tryz.prog ((g9 os).forCall (fun _ _=>0) ⟨#[],#[.slice none 0 0],[]⟩).memory Tryz.f9.params.toList Rows.tokensJoinsSpec.vars false (#[.slice none 0 0]:Array Value).toList 8).map (fun x=>(x.1,x.2.1))=
   some ([.nil],[]):=by kernel_rfl
 obtain⟨⟨x1,x2,x3⟩,hx,hx1⟩:=Option.map_eq_some_iff.1 hw
 simp only[Prod.mk.injEq]at hx1
 obtain⟨rfl,rfl⟩:=hx1
 exact OpenSpec.preRow_of_cond 8 hx (by kernel_rfl) (fun k hk=>by cases hk) (by kernel_rfl) (NM os _)
theorem Sp (os:Os)(started:os.Started)(H:Type)(enc:TypeId×Value→H)(F:Stop.Interp):
  ReturnsInHanded {} Tryz.checked os 9 .any ((OpenSpec.ofChange Rows.tokensJoinsSpec).preRow enc Tryz.prog Tryz.f9 Rows.tokensJoinsRow.domain false Rows.tokensJoinsRow.laid) (((OpenSpec.ofChange Rows.tokensJoinsSpec).at F).post enc Tryz.prog Tryz.f9 false true false false):=by
 refine returnsInHanded_of_row (C:=Tryz.checked) (s:=OpenSpec.ofChange Rows.tokensJoinsSpec) own started (by kernel_rfl) Tryz.func9
  (witness_row_atRef (enc:=enc) (C:=Tryz.checked) false (g9 os) #[.slice none 0 0] rfl (by kernel_rfl) (by kernel_rfl) (by kernel_rfl) (Ex os enc)) ?_
 intro W base args ds gs before hval hW _ _ _ hL hS _
 exact kA H enc W base args ds gs before hval hW hL hS
theorem said:Rows.TokensJoinsSaid:=
 OpenClaim.holds_of_cond 9 Tryz.f9 rfl rfl rfl rfl rfl rfl rfl ⟨rfl,rfl,rfl,rfl,rfl⟩ rfl rfl rfl rfl rfl (by kernel_rfl) Tryz.func9 (by kernel_rfl)
  (of_decide_eq_true (by kernel_rfl)) (by unfold Func.isWrapper;first|(rw[if_pos (by decide+kernel)];kernel_rfl)|(rw[if_neg (by decide+kernel)];exact⟨rfl,rfl⟩))
  (fun os started H enc _ F=>by rw[OpenClaim.pre_eq_preRow];exact Sp os started H enc F)
theorem plain (f:FuncId)(fn:Func)(hf:Tryz.pinned.checked.prog.funcNamed "formulary/formularylaw03.TokensJoins" =some f)(hfn:Tryz.pinned.checked.prog.funcs[f]? =some fn):
  true=Tryz.pinned.checked.prog.looks []∧ ∀(j:Nat) t,fn.params[j]? =some t→Tryz.pinned.checked.prog.wantsStandIn t=false:=by
 obtain rfl:f=9:=Option.some.inj ((show Tryz.prog.funcNamed "formulary/formularylaw03.TokensJoins" =some 9 by kernel_rfl).symm.trans hf) |>.symm
 obtain rfl:fn=Tryz.f9:=(Option.some.inj (Tryz.func9.symm.trans hfn)).symm
 refine⟨by kernel_rfl,fun j t ht=> ?_⟩
 rw[Tryz.params9]at ht
 have hm:=Array.mem_of_getElem? ht
 simp only[List.mem_toArray,List.mem_cons,List.not_mem_nil,or_false]at hm
 subst hm
 ·exact(show Tryz.prog.wantsStandIn 32=false by kernel_rfl)
end Go.Proofs.YtfcjjankfjaapaaGreatDoor.TokensJoins
namespace Go.Proofs.YtfcjjankfjaapaaGreatDoor
theorem tokensJoins_holds:Rows.TokensJoinsCardSaid:=
 Claim7.holds_tied_plain_at .later [] _ _ _ _ TokensJoins.said (fun _ h=>by cases h) (by kernel_rfl) (fun _ h=>by cases h) tokensJoins_row_tie rfl ⟨rfl,rfl⟩ (by kernel_rfl) rfl TokensJoins.plain (by kernel_rfl)
#print axioms tokensJoins_holds
end Go.Proofs.YtfcjjankfjaapaaGreatDoor
