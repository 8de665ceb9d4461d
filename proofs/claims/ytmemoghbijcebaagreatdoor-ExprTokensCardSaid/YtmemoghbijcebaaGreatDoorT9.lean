/-
  The statement ExprTokensCardSaid, proved; part 10 of 11 of its proof.
-/
import Derived.Test.YtmemoghbijcebaaGreatDoorT8
set_option linter.all false
set_option maxRecDepth 100000
namespace Go.Abs
open Go Go.Proofs
section
variable {α β γ δ:Type}{μ:Mu}{lv i n k f:Nat}{l:List Tok}{res:Option (α×List Tok)}
def oV {x:Option Out}{g:LV->Mu->Option β}{p:CV->Mu->Option β}:callK x g p=opt x λo=>callK (some o) g p:=by cases x<;>rfl
def cU {x:Option Out}{g:LV->Mu->Option β}{p:CV->Mu->Option β}{k:β->Option γ}:opt (callK x g p) k=callK x (λv μ=>opt (g v μ) k) (λv μ=>opt (p v μ) k):=by
 cases x with|none=>rfl|some o=>cases o<;>rfl
def ur {x:PR β}{kk:β->List Tok->PR α}{good1:β->Mu->γ}{bad1:Mu->γ}{good:α->Mu->δ}{bad:Mu->δ}{X:Option γ}{K:γ->Option δ}(hb:cY x kk=some res)
 (hx: ∀r,x=some r->cm μ lv i l r good1 bad1 X) (hp: ∀μ',K (bad1 μ')=some (bad μ'))
 (hs: ∀t n,x=some (some (t,l.drop n))->n<=l.length->kk t (l.drop n)=some res->cm (rS μ lv i l n) lv i l res good bad (K (good1 t (rS μ lv i l n)))):cm μ lv i l res good bad (opt X K):=by
 rcases fU hb with⟨h1,rfl⟩|⟨a,r,h1,h2⟩
 ·exact cm.bind (hx _ h1) (λ_=>rfl) hp λa n h=>by cases h
 ·refine cm.bind (hx _ h1) (λh=>by cases h) hp λt n h hn=> ?_;injection h with h;injection h with h3 h4;subst h3 h4;exact hs _ _ h1 hn h2
def yB {x:PR β}{kk:β->List Tok->PR α}{g1:β->LV}{good:α->Mu->δ}{bad:Mu->δ}{X:Option Out}{K:LV->Mu->Option δ}{p:CV->Mu->Option δ}(hb:cY x kk=some res)
 (hx: ∀r,x=some r->cm μ lv i l r (λa μ=> .ret (g1 a) μ) iR X) (hp: ∀μ',p gh μ'=some (bad μ'))
 (hs: ∀t n,x=some (some (t,l.drop n))->n<=l.length->kk t (l.drop n)=some res->cm (rS μ lv i l n) lv i l res good bad (K (g1 t) (rS μ lv i l n))):cm μ lv i l res good bad (callK X K p):=by
 rw[oV];exact ur hb hx hp hs
def mL {d:SegD}{good:α->Mu->δ}{bad:Mu->δ}{K:St->Option δ}(h:cm μ lv i l res good bad (opt (d.sK (ev E) μ) K)):cm μ lv i l res good bad (opt (d.seg (ev E) μ) K):=
 h.imp λr hr=>by obtain⟨s,h1,h2⟩:=cF hr;rw[ck h1,bx,h2]
def X4 {d:SegD}{good:α->Mu->δ}{bad:Mu->δ}{K:St->Option δ}(h:cm μ lv i l res good bad (opt (d.rK (ev E) μ) K)):cm μ lv i l res good bad (opt (d.loop (ev E) μ) K):=
 h.imp λr hr=>by obtain⟨s,h1,h2⟩:=cF hr;rw[cC h1,bx,h2]
def jY {good:α->Mu->δ}{bad:Mu->δ}{a:α}{x:Option δ}(h:Rdr μ lv i l n)(hx:x=some (good a μ)):cm μ lv i l (some (a,l.drop n)) good bad x:=⟨n,rfl,h.le,by rw[xg h.ob];exact hx⟩
def qy {good:α->Mu->δ}{bad:Mu->δ}{x:Option δ}(h:Rdr μ lv i l n)(hx:x=some (bad μ)):cm μ lv i l (none:Option (α×List Tok)) good bad x:=⟨n,by rw[xg h.ob];exact hx⟩
def LS {x:Lam}{good:α->Mu->δ}{bad:Mu->δ}{y:Option δ}(hl:lv<μ.length)(h:cm (μ++[x]) lv i l res good bad y):cm μ lv i l res (λa ν=>good a (ν++[x])) (λν=>bad (ν++[x])) y:=by
 have e: ∀n,rS (μ++[x]) lv i l n=rS μ lv i l n++[x]:=λn=>m3 hl;unfold cm at h |-;cases res with
 |none=>obtain⟨n,h⟩:=h;exact⟨n,by rw[h,e]⟩
 |some q=>obtain⟨n,a,b,h⟩:=h;exact⟨n,a,b,by rw[h,e]⟩
def Rdr.push {x:Lam}(h:Rdr μ lv i l n):Rdr (μ++[x]) lv i l n:=⟨by rw[cV h.lt];exact h.ob,h.le,h.few,by have:=h.lt;simp;omega⟩
def EX {s:List UInt8}{good:α->Mu->δ}{bad:Mu->δ}{K:LV->Mu->Option δ}{p:CV->Mu->Option δ}(h:Rdr μ lv i l n)(hs:s≠[])
 (h1:n+1<=l.length->cI s (l.drop n)=some (l.drop (n+1))->cm (rS μ lv i l (n+1)) lv i l res good bad (K (LV.bool true) (rS μ lv i l (n+1))))
 (h2:cI s (l.drop n)=none->cm μ lv i l res good bad (K (LV.bool false) μ)):cm μ lv i l res good bad (callK ((ev E).call 162 [LV.cv (CV.ref lv i 0),LV.str s] μ) K p):=by
 rw[sd h.ob h.small];cases t:cI s (l.drop n)with
 |none=>exact h2 t|some r=>obtain⟨hn,e⟩:=gU hs t;exact(h1 hn (by rw[t,e])).up
def EW {s:List UInt8}{good:α->Mu->δ}{bad:Mu->δ}{K:LV->Mu->Option δ}{p:CV->Mu->Option δ}{kk:List Tok->PR α}(h:Rdr μ lv i l n)(hs:s≠[])(hb:jJ s (l.drop n) kk=some res)
 (hp: ∀μ',p gh μ'=some (bad μ'))
 (h1:n+1<=l.length->kk (l.drop (n+1))=some res->cm (rS μ lv i l (n+1)) lv i l res good bad (K (LV.ltup []) (rS μ lv i l (n+1)))):cm μ lv i l res good bad (callK ((ev E).call 185 [LV.cv (CV.ref lv i 0),LV.str s] μ) K p):=by
 rw[agK h.ob h.small];unfold jJ at hb;cases t:cI s (l.drop n)with
 |none=>rw[t]at hb;injection hb with hb;subst hb;exact qy h (hp _)
 |some r=>obtain⟨hn,e⟩:=gU hs t;subst e;rw[t]at hb;exact(h1 hn hb).up
end
section
variable {μ:Mu}{lv i n k f:Nat}{l:List Tok}
def Y8 (t:T)(μ':Mu):(opt (cW (LV.cv t.cv)) λc=>(some (.ret (LV.cv c) μ'):Option Out))=some (ff t μ'):=by rw[gF,bx];rfl
def uX (ih:PAll f)(h:Rdr μ lv i l n): ∀res,cJ f 1 (l.drop n)=some res->cm μ lv i l res ff iR ((ev E).call 95 [LV.cv (CV.ref lv i 0)] μ):=λres hp=>by refine cm.ev ?_;rw[ak1];exact cm.same (ih.level (k:=1) h bu bu hp) Y8
structure Clo (Q:T->Prop):Prop where
 leaf: ∀(k y:Int) (s:List UInt8),k=0\/k=1->Q (.mk k y s [])
 call: ∀(s:List UInt8) (ts:List T),(∀a∈ts,Q a)->Q (.mk 2 0 s (ts.map some))
 range: ∀a b c:Option T,(∀t,a=some t->Q t)->(∀t,b=some t->Q t)->(∀t,c=some t->Q t)->Q (.mk 3 0 [] [a,b,c])
 un: ∀(k:Int) (t:T),5<=k->k<=8->Q t->Q (un k t)
 bin: ∀(k:Int) (t u:T),k=4\/9<=k->k<25->Q t->Q u->Q (bin k t u)
def okT (t:T):Prop:=(t.kind=0->t.args=[])/\((t.kind=6\/t.kind=7)-> ∃u,t.args=[some u]/\(u.kind=0->u.args=[]))
def OE {k y:Int}{s:List UInt8}{x:List (Option T)}(h0:k≠0)(h6:k≠6)(h7:k≠7):okT (.mk k y s x):=⟨λh=>absurd h h0,λh=>(h.elim (λh=>absurd h h6) λh=>absurd h h7)⟩
def afA:Clo okT where
 leaf := λk y s h => ⟨λ_ => rfl, λh2 => by
  have h2:k=6\/k=7:=h2
  omega⟩
 call:=λs ts h=>OE bu bu bu
 range:=λa b c _ _ _=>OE bu bu bu
 un := λk t h1 h2 h => ⟨λh3 => by
  have h3:k=0:=h3
  omega,λ_=>⟨t,rfl,h.1⟩⟩
 bin:=λk t u h1 h2 _ _=>OE bu bu bu
def okT.arg {t:T}(h:okT t): ∀x,(t.kind=6\/t.kind=7)->t.args=[x]-> ∃u,x=some u:=λx hk hx=>by obtain⟨u,h1,_⟩:=h.2 hk;rw[h1]at hx;injection hx with hx;exact⟨u,hx.symm⟩
def B7 {a:Int}{b:List UInt8}: ∀{m k j:Nat},k+m<=25->ew a b m k=some j->9<=(j:Int)/\(j:Int)<25
 |0,k,j,hk,h=>by cases h|m+1,k,j,hk,h=>by
  unfold ew at h;split at h
  ·rename_i hc;injection h with h;subst h;have key: ∀k:Nat,k<25->vL (k:Int)=2->tA (k:Int)≠[]->9<=k:=cf;have:=key k bu hc.1 hc.2.1;omega
  ·exact B7 bu h
def QR {α:Type}(Q:α->Prop)(x:PR α):Prop:= ∀t r,x=some (some (t,r))->Q t
def QR.ret {α:Type}{Q:α->Prop}{t:α}{r:List Tok}(h:Q t):QR Q (d9 t r):=λa b e=>by injection e with e;injection e with e;injection e with e;subst e;exact h
def QR.fail {α:Type}{Q:α->Prop}:QR Q failP:=λa b e=>by cases e
def QR.bind {α β:Type}{Q:α->Prop}{x:PR β}{k:β->List Tok->PR α}(h: ∀a r,x=some (some (a,r))->QR Q (k a r)):QR Q (cY x k):=λt r e=>by
 rcases fU e with⟨_,h2⟩|⟨a,r1,h1,h2⟩
 ·cases h2
 ·exact h a r1 h1 t r h2
def QR.must {α:Type}{Q:α->Prop}{s:List UInt8}{r:List Tok}{k:List Tok->PR α}(h: ∀r,QR Q (k r)):QR Q (jJ s r k):=by
 unfold jJ;split
 ·exact h _
 ·exact QR.fail
structure QAll (Q:T->Prop) (f:Nat):Prop where
 level: ∀n r,QR Q (cJ f n r)
 first: ∀n r,QR Q (fv f n r)
 loop: ∀n t r,Q t->QR Q (gm f n t r)
 prim: ∀r,QR Q (gR f r)
 list: ∀acc r,(∀a∈acc,Q a)->QR (λts:List T=> ∀a∈ts,Q a) (gQ f acc r)
 part: ∀r,QR (λo:Option T=> ∀t,o=some t->Q t) (iH f r)
 arg: ∀r,QR Q (kn f r)
def ac8 {Q:T->Prop}(c:Clo Q): ∀f,QAll Q f
 |0=>⟨λn r a b e=>by simp[cJ]at e,λn r a b e=>by simp[fv]at e,λn t r _ a b e=>by simp[gm]at e,λr a b e=>by simp[gR]at e,λl r _ a b e=>by simp[gQ]at e,λr a b e=>by simp[iH]at e,λr a b e=>by simp[kn]at e⟩|f+1=>by
  have ih:=ac8 c f;have snoc: ∀{acc:List T} {t:T},(∀a∈acc,Q a)->Q t-> ∀a∈acc++[t],Q a:=λh ht a ha=>by
   rcases gt.1 ha with ha|ha
   ·exact h a ha
   ·rw[kU]at ha;subst ha;exact ht
  have some1: ∀{t:T},Q t-> ∀u,some t=some u->Q u:=λh u e=>by injection e with e;subst e;exact h
  refine⟨λn r=> ?_,λn r=> ?_,λn t r ht=> ?_,λr=> ?_,λacc r ha=> ?_,λr=> ?_,λr=> ?_⟩
  ·rw[cJ];split
   ·exact ih.prim _
   split
   ·refine QR.bind λa r h=> ?_;split
    ·exact QR.bind λ_ _ h2=>QR.ret (c.bin _ _ _ bu bu (ih.prim _ _ _ h) (ih.level _ _ _ _ h2))
    ·exact QR.ret (ih.prim _ _ _ h)
   split
   ·split
    ·exact QR.bind λ_ _ h=>QR.ret (c.un _ _ bu bu (ih.level _ _ _ _ h))
    ·exact ih.level _ _
   split
   ·refine QR.bind λa r h=> ?_;split
    ·rename_i ho;have hk:=B7 bu ho;exact QR.bind λ_ _ h2=>QR.ret (c.bin _ _ _ (.inr hk.1) hk.2 (ih.level _ _ _ _ h) (ih.level _ _ _ _ h2))
    ·exact QR.ret (ih.level _ _ _ _ h)
   ·exact QR.bind λa r h=>ih.loop _ _ _ (ih.first _ _ _ _ h)
  ·rw[fv]
   repeat' split
   all_goals first|exact ih.level _ _|exact QR.bind λ_ _ h=>QR.ret (c.un _ _ bu bu (ih.level _ _ _ _ h))
  ·rw[gm];split
   ·rename_i ho;have hk:=B7 bu ho;exact QR.bind λ_ _ h=>ih.loop _ _ _ (c.bin _ _ _ (.inr hk.1) hk.2 ht (ih.level _ _ _ _ h))
   ·exact QR.ret ht
  ·rw[gR.eq_def];dsimp only;split
   ·exact QR.fail
   split
   ·exact QR.ret (c.leaf _ _ _ (.inl rfl))
   split
   ·split
    ·exact QR.bind λ_ _ h=>QR.ret (c.call _ _ (ih.list _ _ bE _ _ h))
    ·exact QR.ret (c.leaf _ _ _ (.inr rfl))
   split
   ·refine QR.bind λ_ _ h=> ?_;split
    ·refine QR.bind λ_ _ h2=> ?_;split
     ·exact QR.must λ_=>QR.ret (c.bin _ _ _ (.inl rfl) bu (ih.level _ _ _ _ h) (ih.level _ _ _ _ h2))
     ·exact QR.fail
    ·exact QR.must λ_=>QR.ret (c.un _ _ bu bu (ih.level _ _ _ _ h))
   ·exact QR.fail
  ·rw[gQ];refine QR.bind λt _ h=> ?_;split
   ·exact ih.list _ _ (snoc ha (ih.arg _ _ _ h))
   ·exact QR.must λ_=>QR.ret (snoc ha (ih.arg _ _ _ h))
  ·rw[iH];split
   ·exact QR.ret λt e=>by cases e
   ·exact QR.bind λ_ _ h=>QR.ret (some1 (ih.level _ _ _ _ h))
  ·rw[kn];refine QR.bind λa _ h=> ?_;split
   ·split
    ·exact QR.ret (ih.part _ _ _ h _ rfl)
    ·exact QR.fail
   ·refine QR.bind λb _ h2=> ?_;split
    ·exact QR.bind λd _ h3=>QR.ret (c.range _ _ _ (ih.part _ _ _ h) (ih.part _ _ _ h2) (some1 (ih.level _ _ _ _ h3)))
    ·exact QR.ret (c.range _ _ _ (ih.part _ _ _ h) (ih.part _ _ _ h2) λt e=>by cases e)
def KY (f:Nat):QAll okT f:=ac8 afA f
def Sh {α:Type}(r:List Tok)(x:PR α):Prop:= ∀a r',x=some (some (a,r'))->r'.length<=r.length
def Sh.ret {α:Type}{r r':List Tok}{a:α}(h:r'.length<=r.length):Sh r (d9 a r'):=λb s e=>by injection e with e;injection e with e;injection e with _ e;subst e;exact h
def Sh.fail {α:Type}{r:List Tok}:Sh r (failP:PR α):=λa b e=>by cases e
def Sh.no {α:Type}{r:List Tok}:Sh r (none:PR α):=λa b e=>by cases e
def Sh.bind {α β:Type}{r:List Tok}{x:PR β}{k:β->List Tok->PR α}(hx:Sh r x)(h: ∀a r',r'.length<=r.length->Sh r (k a r')):Sh r (cY x k):=λt s e=>by
 rcases fU e with⟨_,h2⟩|⟨a,r1,h1,h2⟩
 ·cases h2
 ·exact h a r1 (hx _ _ h1) t s h2
def Sh.le {α:Type}{r r':List Tok}{x:PR α}(h:Sh r' x)(hl:r'.length<=r.length):Sh r x:=λa b e=>iN (h a b e) hl
def Kk {s:List UInt8}{r r':List Tok}(h:cI s r=some r'):r'.length<=r.length:=by
 unfold cI at h;split at h
 ·injection h with h;subst h;simp
 ·cases h
def Sh.take {α:Type}{s:List UInt8}{r r0:List Tok}{x:List Tok->PR α}{y:PR α}(hl:r.length<=r0.length)(h: ∀r',r'.length<=r0.length->Sh r0 (x r'))(hy:Sh r0 y):Sh r0 (match cI s r with|some r'=>x r'|none=>y):=by
 cases t:cI s r with|none=>exact hy|some r'=>exact h r' (iN (Kk t) hl)
def Sh.take' {α:Type}{s:List UInt8}{r r0:List Tok}{x:List Tok->PR α}{y:PR α}(hl:r.length<=r0.length)(h: ∀r',r'.length<=r0.length->Sh r0 (x r'))(hy:Sh r0 y):Sh r0 (match cI s r with|none=>y|some r'=>x r'):=by
 cases t:cI s r with|none=>exact hy|some r'=>exact h r' (iN (Kk t) hl)
def Sh.must {α:Type}{s:List UInt8}{r r0:List Tok}{k:List Tok->PR α}(hl:r.length<=r0.length)(h: ∀r',r'.length<=r0.length->Sh r0 (k r')):Sh r0 (jJ s r k):=Sh.take hl h Sh.fail
structure ShAll (f:Nat):Prop where
 level: ∀n r,Sh r (cJ f n r)
 first: ∀n r,Sh r (fv f n r)
 loop: ∀n t r,Sh r (gm f n t r)
 prim: ∀r,Sh r (gR f r)
 list: ∀a r,Sh r (gQ f a r)
 part: ∀r,Sh r (iH f r)
 arg: ∀r,Sh r (kn f r)
def WV: ∀f,ShAll f
 |0=>⟨λn r=>by simp only[cJ];exact Sh.no,λn r=>by simp only[fv];exact Sh.no,λn t r=>by simp only[gm];exact Sh.no,λr=>by simp only[gR];exact Sh.no,λa r=>by simp only[gQ];exact Sh.no,λr=>by simp only[iH];exact Sh.no,λr=>by simp only[kn];exact Sh.no⟩|f+1=>by
  have ih:=WV f;have tl: ∀r:List Tok,r.tail.length<=r.length:=λr=>by simp
  refine⟨λn r=> ?_,λn r=> ?_,λn t r=> ?_,λr=> ?_,λa r=> ?_,λr=> ?_,λr=> ?_⟩
  ·rw[cJ];split
   ·exact ih.prim _
   split
   ·exact Sh.bind (ih.prim _) λa r' h=>Sh.take h (λr2 h2=>Sh.bind ((ih.level _ _).le h2) λ_ _ h3=>Sh.ret h3) (Sh.ret h)
   split
   ·exact Sh.take (ct _) (λr2 h2=>Sh.bind ((ih.level _ _).le h2) λ_ _ h3=>Sh.ret h3) (ih.level _ _)
   split
   ·refine Sh.bind (ih.level _ _) λa r' h=> ?_;split
    ·exact Sh.bind ((ih.level _ _).le (iN (tl _) h)) λ_ _ h3=>Sh.ret h3
    ·exact Sh.ret h
   ·exact Sh.bind (ih.first _ _) λa r' h=>(ih.loop _ _ _).le h
  ·rw[fv];split
   ·exact Sh.take (ct _) (λr2 h2=>Sh.bind ((ih.level _ _).le h2) λ_ _ h3=>Sh.ret h3) (Sh.take (ct _) (λr2 h2=>Sh.bind ((ih.level _ _).le h2) λ_ _ h3=>Sh.ret h3) (ih.level _ _))
   ·exact ih.level _ _
  ·rw[gm];split
   ·exact Sh.bind ((ih.level _ _).le (tl _)) λ_ _ h3=>(ih.loop _ _ _).le h3
   ·exact Sh.ret (ct _)
  ·rw[gR.eq_def];dsimp only;split
   ·exact Sh.fail
   ·rename_i x r;have hr:r.length<=(x::r).length:=bE;split
    ·exact Sh.ret hr
    split
    ·exact Sh.take hr (λr2 h2=>Sh.bind ((ih.list _ _).le h2) λ_ _ h3=>Sh.ret h3) (Sh.ret hr)
    split
    ·refine Sh.bind ((ih.level _ _).le hr) λa r' h=>Sh.take h (λr2 h2=>Sh.bind ((ih.level _ _).le h2) λb r3 h3=> ?_) (Sh.must h λ_ h4=>Sh.ret h4);split
     ·exact Sh.must h3 λ_ h4=>Sh.ret h4
     ·exact Sh.fail
    ·exact Sh.fail
  ·rw[gQ];exact Sh.bind (ih.arg _) λa r' h=>Sh.take h (λr2 h2=>(ih.list _ _).le h2) (Sh.must h λ_ h4=>Sh.ret h4)
  ·rw[iH];split
   ·exact Sh.ret (ct _)
   ·exact Sh.bind (ih.level _ _) λ_ _ h=>Sh.ret h
  ·rw[kn];refine Sh.bind (ih.part _) λa r' h=>Sh.take' h (λr2 h2=>Sh.bind ((ih.part _).le h2) λb r3 h3=>Sh.take h3 (λr4 h4=>Sh.bind ((ih.level _ _).le h4) λ_ _ h5=>Sh.ret h5) (Sh.ret h3)) ?_;split
   ·exact Sh.ret h
   ·exact Sh.fail
def mf {sz:Nat}{xs ys:List CV}(h1:xs.length+ys.length<=1000000)(h2:gj sz xs=true)(h3:gj sz ys=true):eq sz xs ys=true:=by unfold eq;rw[h2,h3];simp[small];omega
def DD: ∀l:List T,cr (l.map some)=l.map T.cv
 |[]=>by rw[iA,cr];rfl|t::r=>by rw[dr,cr,gk,DD r];rfl
def ae2 (ih:PAll f)(h:Rdr μ lv i l n): ∀res,gQ f [] (l.drop n)=some res->cm μ lv i l res (λts μ=> .ret (LV.osl (ts.map T.cv)) μ) iR ((ev E).call 184 [LV.cv (CV.ref lv i 0)] μ):=λres hp=>by refine cm.ev ?_;rw[ai7];exact ih.list h (ox _) hp
def WG (ih:PAll f){res:Option (T×List Tok)}{K:St->Option Out}(h:Rdr μ lv i l n)
 (hp : (cY (cJ f 1 (l.drop n)) λt r => match cI [44] r with
  |some r=>cY (cJ f 1 r) λu r=>if eM t&&eM u then jJ [41] r λr=>d9 (bin 4 t u) r else failP
  |none=>jJ [41] r λr=>d9 (un 5 t) r)=some res)
 (hg: ∀(t:T) (k y:Int) (s:List UInt8) (x:List CV) μ',t.cv=CV.view [bF k,bF y,CV.str s,CV.sl x]->K (s5 k y s x μ')=some (ff t μ')) (hb: ∀μ',K (i7 gh μ')=some (iR μ')):
 cm μ lv i l res ff iR (opt (ww (ev E) lv i μ) K):=by
 refine mL ?_;rw[Z9,cU];refine yB (g1:=λt:T=>LV.cv t.cv) hp (uX ih h) (λμ'=>hb μ') λt m hx hm e=> ?_;have ht:okT t:=(KY f).level _ _ _ _ hx;have h1:=h.to hm;rw[gF,bx,cU];refine EX h1 bE (λhn t1=> ?_) (λt1=> ?_)
 ·rw[t1]at e;dsimp only at e;have h2:=h1.to hn;rw[bX,bx,bH,cU];refine yB (g1:=λt:T=>LV.cv t.cv) e (uX ih h2) (λμ'=>hb μ') λu m2 hx2 hm2 e2=> ?_;have hu:okT u:=(KY f).level _ _ _ _ hx2;have h3:=h2.to hm2;simp only[gF,bx,ad1 ht.arg,bV,bX];cases p1:eM t with
  |false=>rw[p1]at e2;injection e2 with e2;subst e2;simp only[c8,bH,wZ,eu];exact qy h3 (hb _)
  |true=>
   simp only[cS,bI,ad1 hu.arg,bV,bX,bx];cases p2:eM u with
   |false=>rw[p1,p2]at e2;injection e2 with e2;subst e2;simp only[c8,bH,wZ,eu];exact qy h3 (hb _)
   |true=>rw[p1,p2,j9,bC rfl]at e2;simp only[cS,bI];rw[f8];refine mL ?_;rw[aaa,cU];refine EW h3 bE e2 (λμ'=>by rw[show pX s6 gh μ'=some (s6 gh μ')from rfl,bx,Oc,bx,hb]) λhn3 e3=> ?_;injection e3 with e3;subst e3;simp only[dF,bx,cR,hJ,cK,nH,j9,Oa];exact jY (h3.to hn3) (hg _ _ _ _ _ _ Gf)
 ·rw[t1]at e;dsimp only at e;rw[bX,bx,bI,f8];refine mL ?_;rw[aab,cU];refine EW h1 bE e (λμ'=>by rw[show pX s7 gh μ'=some (s7 gh μ')from rfl,bx,Oe,bx,hb]) λhn3 e3=> ?_;injection e3 with e3;subst e3;simp only[dF,bx,cR,hJ,cK,nH,j9,Od];exact jY (h1.to hn3) (hg _ _ _ _ _ _ K5)
def aaQ (ih:PAll f){res:Option (T×List Tok)}(h:Rdr μ lv i l n)(hp:gR (f+1) (l.drop n)=some res):cm μ lv i l res ff iR ((ev E).call 161 [LV.cv (CV.ref lv i 0)] μ):=by
 refine cm.ev ?_;have e1: ∀m:Int,strip (bv m)=bv m:=λ_=>rfl;have e2:strip (LV.cv (CV.sl (bS l)))=LV.cv (CV.sl (bS l)):=rfl;have ro:ce μ lv i= .cells [LV.cv (CV.sl (bS l)),bv (n:Int)]:=h.ob;have hg: ∀(t:T) (k y:Int) (s:List UInt8) (x:List CV) μ',t.cv=CV.view [bF k,bF y,CV.str s,CV.sl x]->kB (ev E) 161 kl [] (mH k y s x μ')=some (ff t μ'):=λt k y s x μ' e=>by rw[Qh];unfold ff;rw[e]
 rw[aiZ,ro];simp only[vR,qV,e1,e2,bx,eo,o6,jM];rw[gR.eq_def]at hp;dsimp only at hp;rcases fu n l.length with hn|hn
 ·rw[dY hn]at hp;dsimp only at hp;rw[show decide ((l.length:Int)<=(n:Int))=false by simp;omega,bI];refine mL ?_;have hr:cx μ lv i (.cells [LV.cv (CV.sl (bS l)),bv ((n+1:Nat):Int)])=rS μ lv i l (n+1):=rfl;have h1:=h.to hn;rw[acs,ro];simp only[vR,qV,e1,e2,bx,eo,o6,qm,dK hn,gN,m7,Xd,dy h.small,hr];generalize l[n]=x at hp |-;refine cm.up (m:=n+1) ?_;by_cases k1:x.kind=1
  ·rw[bC k1]at hp;injection hp with hp;subst hp;rw[co k1,bH];exact jY h1 (hg _ _ _ _ _ _ (by rw[rc,cr]))
  rw[bB k1]at hp;rw[cl k1,bI];by_cases k0:x.kind=0
  ·rw[bC k0]at hp;simp only[co k0,bH];rw[cU];refine EX h1 bE (λhn2 t1=> ?_) (λt1=> ?_)
   ·rw[t1]at hp;dsimp only at hp;have h2:=h1.to hn2;rw[bX,bx,bH,cU];refine yB (g1:=λts:List T=>LV.osl (ts.map T.cv)) hp (ae2 ih h2) (λμ'=>rfl) λts m _ hm e=> ?_;injection e with e;subst e;exact jY (h2.to hm) (hg _ _ _ _ _ _ (by rw[rc,DD]))
   ·rw[t1]at hp;injection hp with hp;subst hp;exact jY h1 (hg _ _ _ _ _ _ (by rw[rc,cr]))
  rw[bB k0]at hp;simp only[cl k0,bI];by_cases ks:x.text=[40]
  ·rw[bC ks]at hp;rw[co ks,cS,bI,f8];exact WG ih h1 hp (λt k y s x μ' e=>by rw[N9,bx,hg _ _ _ _ _ _ e]) (λμ'=>rfl)
  ·rw[bB ks]at hp;injection hp with hp;subst hp;rw[cl ks,c8,bH,wZ];exact qy h1 rfl
 ·rw[dS hn]at hp;injection hp with hp;subst hp;rw[show decide ((l.length:Int)<=(n:Int))=true by simp;omega,bH,wZ];exact qy h rfl
def Pq {a b:List T}(h:a.length+b.length<=1000000):eq 1 (a.map T.cv) (b.map T.cv)=true:=mf b7 (vW _) (vW _)
def ZG (ih:PAll f){acc:List T}{res:Option (List T×List Tok)}(h:Rdr μ lv i l n)(ha:acc.length<=n)(hp:gQ (f+1) acc (l.drop n)=some res):
 cm μ lv i l res (λts μ=> .ret (LV.osl (ts.map T.cv)) μ) iR (opt (FS (ev E) lv i (acc.map T.cv) μ) (kB (ev E) 184 En [.block 0,.seq (cN 184 15)])):=by
 rw[gQ]at hp;refine X4 ?_;rw[acW,cU];have hb: ∀μ',opt (pX A8 gh μ') (kB (ev E) 184 En [.block 0,.seq (cN 184 15)])=some (iR μ'):=λμ'=>rfl;refine yB (g1:=λt:T=>LV.cv t.cv) hp (λr hr=>ih.arg h hr) hb λt m hx hm e=> ?_;have hlt:n<=m:=by have:=(WV f).arg _ _ _ hx;have:=h.le;simp at*;omega
 have h1:=h.to hm;have hc:eq 1 (acc.map T.cv) [t.cv]=true:=Pq (b:=[t]) (by have:=h.le;have:=h.few;simp;omega);have hap:acc.map T.cv++[t.cv]=(acc++[t]).map T.cv:=bE;simp only[gF,bx,hJ,cK,nH,j9,jw,hc,hap];rw[cU];refine EX h1 bE (λhn t1=> ?_) (λt1=> ?_)
 ·rw[t1]at e;rw[bX,bx,cS,bI];exact ih.list (h1.to hn) b7 e
 ·rw[t1]at e;rw[bX,bx,c8,bH,bx,Ro];refine EW h1 bE e (λμ'=>rfl) λhn e3=> ?_;injection e3 with e3;subst e3;simp only[dF,bx,cR];exact jY (h1.to hn) rfl
mutual
def CS {m:Nat}: ∀t:T,below m t.cv=true
 | .mk k y s x=>by rw[rc];simp only[below,dp,pG x]
def pG {m:Nat}: ∀x:List (Option T),dp m (cr x)=true
 |[]=>by rw[cr];rfl|none::r=>by rw[cr,kE];simp only[dp,below,pG r]|some t::r=>by rw[cr,gk];simp only[dp,CS t,pG r]
end
def mr {ν:Mu}{x:Lam}{L j:Nat}(h:ν.length=L):ce (ν++[x]) L j=bU x j:=by subst h;exact db
def m9 {ν:Mu}{x:Lam}{L j:Nat}{o:Ob}(h:ν.length=L):cx (ν++[x]) L j o=ν++[x.set j o]:=by subst h;exact m0
theorem ajy {c:LV}:bU (uM lv i c) 0= .cells [LV.cv (CV.ref lv i 0)]:=rfl
theorem aeg {c:LV}:bU (uM lv i c) 1= .cells [c]:=rfl
theorem aeh {c:LV}{o:Ob}:(uM lv i c).set 1 o=[Ob.cells [LV.cv (CV.ref lv i 0)],o]:=rfl
def ahD {a:LV}:cw E.P 88 (.cells [a]) 0=some (strip a):=bw
def aen {a:LV}:jl E.P 107 (.cells [a]) 0=some (a,.cells [strip a]):=bw
def aes {a:LV}{xs:List CV}:dv E.P 107 (.cells [a]) 0 (LV.osl xs)=some (.cells [LV.osl xs]):=bw
theorem qS {α:Type}{x:CV}{xs:List CV}{k:Lam->Option α}:qR [(0,[3]),(1,[1])] [Ob.cells [LV.cv x],Ob.cells [LV.osl xs]] k=k [Ob.cells [LV.cv x],Ob.cells [LV.osl xs]]:=rfl
def vB {ps:List (Option T)}{a:Option T}:cr ps++[i8 a]=cr (ps++[a]):=by rw[U4,cr,cr]
def agW (h:Rdr μ lv i l n):(ev E).call 223 [LV.cv (CV.ref lv i 0)] μ=some (.ret (LV.bool (mA (l.drop n))) μ):=by refine bW ?_;have e3:LV.osl [CV.str ([58]:List UInt8),CV.str ([44]:List UInt8),CV.str ([41]:List UInt8)]=LV.osl (dh [[58],[44],[41]]):=rfl;rw[ajr,GP h.ob];simp only[bQ];rw[e3,ZA cf];simp only[bQ];congr 3;unfold mA;generalize opR (l.drop n)=x;by_cases a:x=[58]<;>by_cases b:x=[44]<;>by_cases c:x=[41]<;>simp[a,b,c]
def aaK (ih:PAll f){ps:List (Option T)}{c:LV}{res:Option (Option T×List Tok)}(h:Rdr μ lv i l n)(hps:ps.length<=10)(hc:iJ c=some (cr ps))(hp:iH (f+1) (l.drop n)=some res):
 cm μ lv i l res (λa ν=> .ret (LV.ltup []) (ν++[uM lv i (LV.osl (cr (ps++[a])))])) (λν=> .panic gh (ν++[[Ob.cells [LV.cv (CV.ref lv i 0)],.dead]])) ((ev E).call 222 [LV.cv (CV.ref μ.length 0 0),LV.cv (CV.ref μ.length 1 0)] (μ++[uM lv i c])):=by
 refine cm.ev ?_;rw[iH]at hp;have es:strip (LV.cv (CV.ref lv i 0))=LV.cv (CV.ref lv i 0):=rfl;have gs: ∀c:CV,cW (LV.cv c)=some c:=λ_=>rfl;have ap: ∀a:Option T,eq 1 (cr ps) [i8 a]=true:=λa=>by
  have:[i8 a]=cr [a]:=by rw[cr,cr]
  rw[this];exact mf (by rw[il,il];simp;omega) (lN _) (lN _)
 rw[ajq,mr rfl,ajy,ahD,es];simp only[gs,bx];rw[agW h.push,bV,bX,bx];cases hE:mA (l.drop n)with
 |true=>rw[hE,bC rfl]at hp;injection hp with hp;subst hp;rw[bH,mr rfl,aeg,aen,bx,hc,bx,<-kE,ap,cK,vB,pG,cK,m9 rfl,aeh,mr rfl];refine jY h ?_;show opt (dv E.P 107 (.cells [strip c]) 0 _) _=_;rw[aes,bx,m9 rfl];rfl
 |false=>
  rw[hE,bB bE]at hp;rw[bI,mr rfl,aeg,aen,bx,hc,bx,m9 rfl,aeh,mr rfl,mr rfl];show cm μ lv i l res _ _ (opt (cw E.P 88 (.cells [LV.cv (CV.ref lv i 0)]) 0) _);rw[ahD,es,bx,gs,bx];show cm μ lv i l res _ _ (bD true _);rw[cK,m9 rfl];show cm μ lv i l res _ _ (callK ((ev E).call 95 [LV.cv (CV.ref lv i 0)] (μ++[[Ob.cells [LV.cv (CV.ref lv i 0)],.dead]])) _ _);rw[oV];refine ur hp (λr hr=>LS h.lt (uX ih h.push _ hr)) (λμ'=>rfl) λt m hx hm e=> ?_;injection e with e;subst e;have hL:(rS μ lv i l m).length=μ.length:=aaS m;have hin:BA (rS μ lv i l m++[[Ob.cells [LV.cv (CV.ref lv i 0)],.dead]]) μ.length 1=true:=by unfold BA;rw[jy bu,hL,t8];rfl
  refine jY (h.to hm) ?_;dsimp only[ff];rw[bV,gs,bx,hin,mr hL];show bD true _=_;have a1:=ap (some t);rw[gk]at a1;have a2:cr ps++[t.cv]=cr (ps++[some t]):=by rw[<-vB,gk]
  rw[cK,hJ,cK,nH,j9,cK];simp only[jw,nH,ic,a1,cK,a2,pG];rw[m9 hL,mr hL];show opt (dv E.P 107 (.cells [strip c]) 0 _) _=_;rw[aes,bx,m9 hL];rfl
def Ju {α δ:Type}{res:Option (α×List Tok)}{x:Lam}{s:List UInt8}{good:α->Mu->δ}{bad:Mu->δ}{K:LV->Mu->Option δ}{p:CV->Mu->Option δ}(h:Rdr μ lv i l n)(hs:s≠[])
 (h1:n+1<=l.length->cI s (l.drop n)=some (l.drop (n+1))->cm (rS μ lv i l (n+1)) lv i l res good bad (K (LV.bool true) (rS μ lv i l (n+1)++[x])))
 (h2:cI s (l.drop n)=none->cm μ lv i l res good bad (K (LV.bool false) (μ++[x]))):cm μ lv i l res good bad (callK ((ev E).call 162 [LV.cv (CV.ref lv i 0),LV.str s] (μ++[x])) K p):=by
 rw[sd h.push.ob h.small];cases t:cI s (l.drop n)with
 |none=>exact h2 t|some r=>obtain⟨hn,e⟩:=gU hs t;have e2:rS (μ++[x]) lv i l (n+1)=rS μ lv i l (n+1)++[x]:=m3 h.lt;dsimp only;rw[bV,e2];exact(h1 hn (by rw[t,e])).up
def nn (x:CV)(xs:List CV)(μ:Mu):St:= .ret (mS [(2,LV.cv (CV.view [bF 3,bF 0,CV.str [],CV.sl xs]))] [Ob.cells [LV.cv x],Ob.cells [LV.osl xs],Ob.dead] true) μ
def Kg {x:CV}{xs:List CV}{μ:Mu}:HT (ev E) [Ob.cells [LV.cv x],Ob.cells [LV.osl xs]] μ=some (nn x xs μ):=by
 refine ck ?_;have: ∀ρ:Rho,(MC [Ob.cells [LV.cv x],Ob.cells [LV.osl xs]]).sK ρ μ=some (nn x xs μ):=λρ=>by kernel_rfl
 exact this _
def VA {ρ:Rho}{x:CV}{xs:List CV}{μ:Mu}:kS ρ ig [] [(2,0)] (nn x xs μ)=some (nn x xs μ):=bw
def aks {ρ:Rho}{x:CV}{xs:List CV}{μ:Mu}:kB ρ 204 ig [] (nn x xs μ)=bD (fj (List.length μ) (LV.cv (CV.view [bF 3,bF 0,CV.str [],CV.sl xs]))) (some (.ret (LV.cv (CV.view [bF 3,bF 0,CV.str [],CV.sl xs])) μ)):=bw
theorem afz {α:Type}{x:CV}{xs:List CV}{k:Lam->Option α}:qR [(0,[3])] [Ob.cells [LV.cv x],Ob.cells [LV.osl xs]] k=k [Ob.cells [LV.cv x],Ob.cells [LV.osl xs]]:=rfl
def W7 (ih:PAll f){a b:Option T}{res:Option (T×List Tok)}{K:St->Option Out}(h:Rdr μ lv i l n)
 (hp : (match cI [58] (l.drop n) with
  |some r=>cY (cJ f 1 r) λc r=>d9 (.mk 3 0 [] [a,b,some c]) r
  |none=>d9 (.mk 3 0 [] [a,b,none]) (l.drop n))=some res)
 (hg: ∀y c μ',K (nn y (cr [a,b,c]) μ')=some (ff (.mk 3 0 [] [a,b,c]) μ')) (hb: ∀lam μ',K (vm gh lam μ')=some (iR μ')):
 cm μ lv i l res ff iR (opt (Xw (ev E) (uM lv i (LV.osl (cr [a,b]))) μ) K):=by
 have gs: ∀c:CV,cW (LV.cv c)=some c:=λ_=>rfl;refine mL ?_;unfold uM;rw[acK,cU];refine Ju h bE (λhn t1=> ?_) (λt1=> ?_)
 ·rw[t1]at hp;dsimp only at hp;have h1:=h.to hn;rw[ey,bx,bX,bx,qS,f8];refine mL ?_;rw[J0,bH,cU,oV];refine ur hp (λr hr=>LS h1.lt (uX ih h1.push _ hr)) (λμ'=> ?_) λt m hx hm e=> ?_
  ·dsimp only[iR];rw[eu,ey,bx,bx];dsimp only;rw[Ot,bx,hb];rfl
  ·injection e with e;subst e;refine jY (h1.to hm) ?_;dsimp only[ff];have a1:eq 1 (cr [a,b]) [t.cv]=true:=by
    have:[t.cv]=cr [some t]:=by rw[cr,cr,gk]
    rw[this];exact mf (by rw[il,il];simp) (lN _) (lN _)
   have a2:cr [a,b]++[t.cv]=cr [a,b,some t]:=by rw[<-gk,vB];rfl
   rw[bV,ey,bx,gF,bx];dsimp only;show opt (bD true _) _=_;rw[cK,hJ,cK,nH,j9,cK];simp only[jw,nH,ic,a1,cK,a2];have wk: ∀k:Ob->Option St,qP E.P 107 (bU (List.set [Ob.cells [LV.cv (CV.ref lv i 0)],Ob.dead] 1 (Ob.cells [LV.cv (CV.sl (cr [a,b]))])) 1) 0 (LV.osl (cr [a,b,some t])) k=k (.cells [LV.osl (cr [a,b,some t])]):=λk=>by kernel_rfl
   rw[wk,bx,Oq];show opt (qR [(0,[3])] [Ob.cells [LV.cv (CV.ref lv i 0)],Ob.cells [LV.osl (cr [a,b,some t])]] _) K=_;rw[afz,Kg,bx,VA,bx,hg];rfl
 ·rw[t1]at hp;injection hp with hp;subst hp;refine jY h ?_;have a1:eq 1 (cr [a,b]) [CV.v (.pointer none)]=true:=by
   have:[CV.v (.pointer none)]=cr [none]:=by rw[cr,cr,kE]
   rw[this];exact mf (by rw[il,il];simp) (lN _) (lN _)
  have a2:cr [a,b]++[CV.v (.pointer none)]=cr [a,b,none]:=by rw[<-kE,vB];rfl
  have e:Sa (ev E) false [Ob.cells [LV.cv (CV.ref lv i 0)],Ob.cells [LV.osl (cr [a,b])]] μ=some (yl (CV.ref lv i 0) (cr [a,b,none]) μ):=by refine ck ?_;rw[J0,bI,a1,cK,a2]
  rw[ey,bx,bX,bx,qS,e,bx,Ou,Kg,bx,VA,bx,hg]
def abK (ih:PAll f){res:Option (T×List Tok)}(h:Rdr μ lv i l n)(hp:kn (f+1) (l.drop n)=some res):cm μ lv i l res ff iR ((ev E).call 204 [LV.cv (CV.ref lv i 0)] μ):=by
 refine cm.ev ?_;rw[kn]at hp;rw[aji,oV];refine ur hp (λr hr=>ih.part (ps:=[]) (c:=LV.cv (CV.v (.slice none 0 0))) h bE (by rw[cr];rfl) hr) (λμ'=> ?_) λa m hx hm e=> ?_
 ·rw[eu,ey,bx];rfl
 have h1:=h.to hm;have e1:cr [a]=[i8 a]:=by rw[cr,cr]
 rw[bV,ey,bx,dF,bx,cR,bx];unfold uM;rw[qS];refine mL ?_;rw[acH,cU];refine Ju h1 bE (λhn t1=> ?_) (λt1=> ?_)
 ·rw[t1]at e;dsimp only at e;have h2:=h1.to hn;have eG: ∀ν,FL (ev E) (!true) [Ob.cells [LV.cv (CV.ref lv i 0)],Ob.cells [LV.osl (cr ([]++[a]))]] ν=some (AG (CV.ref lv i 0) (cr [a]) ν):=λν=>by refine ck ?_;rw[cS,Fm,bI];rfl
  rw[ey,bx,bX,bx,qS,eG,bx,QK,f8];refine mL ?_;rw[acJ,cU,oV];refine ur e (λr hr=>ih.part (ps:=[a]) (c:=LV.osl (cr [a])) h2 bE rfl hr) (λμ'=> ?_) λb m2 hx2 hm2 e2=> ?_
  ·rw[eu,ey,bx,bx];dsimp only;rw[DT,bx];rfl
  ·have h3:=h2.to hm2;rw[bV,ey,bx,dF,bx,cR,bx];unfold uM;rw[qS,f8];refine W7 ih h3 e2 (λy c μ'=> ?_) (λlam μ'=> ?_)
   ·rw[VA,bx,VA,bx,aks];show bD (below _ (CV.view _)) _=_;rw[<-rc,CS,cK];rfl
   ·rw[QM,bx,DT,bx];rfl
 ·rw[t1]at e;dsimp only at e;cases a with
  |none=>
   injection e with e;subst e;refine qy h1 ?_;have eG: ∀ν,FL (ev E) (!false) [Ob.cells [LV.cv (CV.ref lv i 0)],Ob.cells [LV.osl (cr ([]++[none]))]] ν=some (AF gh [Ob.cells [LV.cv (CV.ref lv i 0)],Ob.cells [LV.osl (cr [none])]] ν):=λν=>by refine ck ?_;rw[c8,Fm,bH];show opt (cT (cr [none]) ((0:Nat):Int)) _=_;rw[tj];show bD (dJ (i8 none)) _=_;rw[lI,cK,Fu,bx,bH,wZ,eu,ey,bx];rfl
   rw[ey,bx,bX,bx,qS,eG,bx,QJ,bx];rfl
  |some t=>
   injection e with e;subst e;refine jY h1 ?_;have e0:cT (cr [some t]) (0:Int)=some t.cv:=by have:=tj [some t] 0;rw[cr,cr,gk]at this |-;exact this
   have e7: ∀ν,Ll (ev E) [Ob.cells [LV.cv (CV.ref lv i 0)],Ob.cells [LV.osl (cr [some t])]] ν=some (AH t.cv (CV.ref lv i 0) (cr [some t]) ν):=λν=>by refine ck ?_;rw[acI,e0,bx,hJ,cK]
   have eG: ∀ν,FL (ev E) (!false) [Ob.cells [LV.cv (CV.ref lv i 0)],Ob.cells [LV.osl (cr ([]++[some t]))]] ν=some (AE t.cv (CV.ref lv i 0) (cr [some t]) ν):=λν=>by refine ck ?_;show (If (!false) [Ob.cells [LV.cv (CV.ref lv i 0)],Ob.cells [LV.osl (cr [some t])]]).sK (ev E) ν=_;rw[c8,Fm,bH,e0,bx,hJ,cK,Ft,bx,bI,e7,bx,QL]
   rw[ey,bx,bX,bx,qS,eG,bx,QI,bx,QH];show bD (below _ t.cv) _=_;rw[CS,cK];rfl
def Cb: ∀f,PAll f
 |0=>⟨λ_ _ _ hp=>(by simp[cJ]at hp),λ_ _ _ hp=>(by simp[fv]at hp),λ_ _ _ hp=>(by simp[gm]at hp),λ_ hp=>(by simp[gR]at hp),λ_ _ hp=>(by simp[gQ]at hp),λ_ _ _ hp=>(by simp[iH]at hp),λ_ hp=>(by simp[kn]at hp)⟩|f+1=>⟨VE (Cb f),Vo (Cb f),ZP (Cb f),aaQ (Cb f),ZG (Cb f),aaK (Cb f),abK (Cb f)⟩
end
def oY {n:Nat}(h:n<10):Lib.decDigits n=[UInt8.ofNat (48+n)]:=Lib.decDigits_one h
def CW {n:Nat}(h: ¬n<10):Lib.decDigits n=Lib.decDigits (n / 10)++[UInt8.ofNat (48+n % 10)]:=by rw[Lib.decDigits,dif_neg h]
def vE {d:Nat}(h:d<10):bL (UInt8.ofNat (48+d))=true/\(UInt8.ofNat (48+d)).toNat=48+d:=by have:(UInt8.ofNat (48+d)).toNat=48+d:=IU (by show 48+d<256;omega);exact⟨fP.2 bu,this⟩
def wS: ∀(n:Nat),∀b∈Lib.decDigits n,bL b=true:=by
 intro n
 induction n using Nat.strongRecOn with
 |_ n ih=>
  intro b hb;by_cases h:n<10
  ·rw[oY h]at hb;rw[kU.1 hb];exact(vE h).1
  ·rw[CW h]at hb;rcases gt.1 hb with h1|h1
   ·exact ih (n / 10) bu b h1
   ·rw[kU.1 h1];exact(vE bu).1
def tV: ∀(n:Nat),valD 0 (Lib.decDigits n)=n:=by
 intro n
 induction n using Nat.strongRecOn with
 |_ n ih=>
  by_cases h:n<10
  ·rw[oY h,gC,nc,(vE h).2];omega
  ·rw[CW h,Pj,ih (n / 10) bu,(vE (d:=n % 10) bu).2];omega
def MH: ∀(n:Nat),mB (Lib.decDigits n):=by
 intro n
 induction n using Nat.strongRecOn with
 |_ n ih=>
  by_cases h:n<10
  ·rw[oY h];exact Or.inl rfl
  ·rw[CW h];rcases ih (n / 10) bu with h1|⟨c,r,h1,h2⟩
   ·match h3:Lib.decDigits (n / 10),h1 with
    |[c],_=>refine Or.inr ⟨c,_,rfl,λe=> ?_⟩;have:=tV (n / 10);rw[h3,e]at this;have h48:valD 0 [(48:UInt8)]=0:=rfl;omega
   ·rw[h1];exact Or.inr ⟨c,_,rfl,h2⟩
def mP: ∀(k n:Nat),1<=k->n<10^k->(Lib.decDigits n).length<=k
 |0,n,h,_=>absurd h bu|1,n,_,h=>by rw[oY (by simpa using h)];exact ct _|k+2,n,_,h=>by
  by_cases h9:n<10
  ·rw[oY h9];simp
  ·rw[CW h9,ef];have:=mP (k+1) (n / 10) bu (by rw[xI]at h;exact(Nat.div_lt_iff_lt_mul bu).2 h);simp only[dz,fL];omega
def uz (t:Tok):Prop:=t.kind=1->t.text.length<=122/\(t.type=0-> ∃n:Nat,n<=2147483647/\t.text=Lib.decDigits n)/\(t.type=6-> ∃u:List UInt8,u.length<=60/\t.text=dZ u)
def yQ {β:Type}:Except Int (Tok×β)->Prop
 | .ok q=>uz q.1| .error _=>True
section
variable {s:List UInt8}{fx:Bool}{n:Nat}
def TF {q:Except Int (Tok×Nat)}(h:yQ q):yQ (noK q):=by cases q<;>exact h
def Gl {t:List UInt8}(h:t.length<=60):uz ⟨1,6,dZ t⟩:=by intro _;have:=CU t;refine⟨?_,λe=>absurd e bE,λ_=>⟨t,h,rfl⟩⟩;show (dZ t).length<=122;unfold dZ;simp only[ef,dz,fL];omega
def RI:yQ (gd s n):=by
 unfold gd;split
 ·trivial
 ·split
  ·trivial
  ·exact Gl bu
def aaV {whole part digits:List UInt8}{letter:UInt8}{ok:Bool}{e:Nat}:yQ (fG whole part digits letter ok e):=by
 unfold fG;split
 ·trivial
 ·rename_i hl;unfold pe at hl;simp only[gO,dA,rb]at hl;have h1:=nI (gB whole);have h2:=nI (ei part);have h3:(jq digits ok).length<=21:=by
   unfold jq;split
   ·exact Lib.itoa_length_le _ (nZ digits).1 (nZ digits).2
   ·simp
  have h4:(iY whole part).length<=33:=by unfold iY;simp only[ef,dz,fL];omega
  unfold gn;show uz _;split
  ·exact λ_=>⟨by simp only[ef,dz,fL];omega,λe=>absurd e bE,λe=>absurd e bE⟩
  ·split
   ·exact λ_=>⟨by simp only;omega,λe=>absurd e bE,λe=>absurd e bE⟩
   ·exact λ_=>⟨by simp only[ef,dz,fL];omega,λe=>absurd e bE,λe=>absurd e bE⟩
def MX {d:List UInt8}(hd: ∀b∈d,bL b=true){t:Tok}(h:eK d= .ok t):uz t:=by
 unfold eK at h;split at h
 ·cases h
 ·rename_i hh;simp only[rb]at hh;injection h with h;subst h;obtain⟨h1,h2,h3⟩:=hh;have h0:d≠[]:=λe=>h2 (by rw[e];rfl);have hN:eD d=(valD 0 d:Nat):=by unfold eD;rw[ja hd h0 bu]
  rw[hN]at h3 |-;intro _;have hT:Lib.itoa ((valD 0 d:Nat):Int)=Lib.decDigits (valD 0 d):=oG;have hs:=mP 10 (valD 0 d) bu bu;exact⟨by show (Lib.itoa ((valD 0 d:Nat):Int)).length<=122;rw[hT];omega,λ_=>⟨valD 0 d,bu,hT⟩,λe=>absurd e bE⟩
def RB:yQ (fa fx s n):=by
 unfold fa;simp only;split
 ·split
  ·rename_i t ht;exact MX (λb hb=>uR b hb) ht
  ·trivial
 ·exact aaV
def o7 {t:Tok}(h:t.kind≠1):uz t:=λe=>absurd e h
def afD:yQ (iu fx s n):=by
 unfold iu;simp only;split
 ·exact o7 (by show (2:Int)≠1;decide)
 ·split
  ·exact o7 (by show (2:Int)≠1;decide)
  ·split
   ·exact o7 (by show (2:Int)≠1;decide)
   ·split
    ·exact o7 (by show (2:Int)≠1;decide)
    ·trivial
def adw:kh.length=6/\jh.length=7:=cf
def abs {w:List UInt8}:uz (fC w):=by
 unfold fC;split
 ·rename_i h;have:=adw;refine λ_=>⟨?_,λe=>absurd e bE,λe=>absurd e bE⟩;rcases h with h|h<;>(simp only[h];omega)
 ·exact o7 bE
def W8 {out:List Tok}:yQ (jn fx s out n):=by
 unfold jn;split
 ·rename_i h;simp only[cE,dA]at h;obtain⟨_,h1,h2,h3,h4⟩:=h;unfold we;split
  ·trivial
  ·refine Gl ?_;rw[qo];omega
 ·unfold fp;split
  ·split
   ·trivial
   ·exact o7 bE
  ·split
   ·exact TF RB
   ·split
    ·split
     ·exact abs
     ·trivial
    ·split
     ·have:=RI (s:=s) (n:=n);unfold iE;cases hq:gd s n with|ok q=>rw[hq]at this;exact this|error e=>trivial
     ·exact TF afD
def Hx: ∀(k n:Nat) (out:List Tok) (kept:List Nat),(∀t∈out,uz t)-> ∀t∈(eN fx s k n out kept).2.1,uz t:=by
 intro k
 induction k with
 |zero=>intro n out kept h;exact h|succ k ih=>
  intro n out kept h;unfold eN;split
  ·exact h
  ·have hf:=W8 (fx:=fx) (s:=s) (n:=n+cB (s.drop n)) (out:=out);split
   ·exact h
   ·rename_i q hq;rw[hq]at hf;refine ih _ _ _ λt ht=> ?_;rcases gt.1 ht with h1|h1
    ·exact h t h1
    ·rw[kU.1 h1];exact hf
def Kf {t:Tok}(h:t∈gS fx s):uz t:=by
 unfold gS at h;split at h
 ·unfold dn at h;split at h
  ·simp only at h;split at h
   ·split at h<;>exact Hx _ _ _ _ (λ_ h=>absurd h bE) _ h
   ·exact Hx _ _ _ _ (λ_ h=>absurd h bE) _ h
  ·simp at h
 ·simp at h
def qj {t:Tok}:l8 s=some t↔(dn false s).e=0/\gS false s=[t]:=by
 unfold l8 gS;constructor
 ·intro h;split at h
  ·rename_i h1;obtain⟨_,hl,_⟩:=tT h1.1;refine⟨h1.1,?_⟩;rw[bC h1.1];rw[h1.2]at hl;obtain⟨x,hx⟩:=xN.1 hl.symm;rw[hx]at h |-;simp at h;rw[h]
  ·cases h
 ·rintro⟨h1,h2⟩;obtain⟨_,hl,_⟩:=tT h1;rw[bC h1]at h2;rw[h2]at hl;rw[bC ⟨h1,hl⟩,h2];rfl
def aaX {k:Int}:Hk k s=if l8 s=some ⟨1,k,s⟩then 0 else 3:=by
 unfold Hk;by_cases h:l8 s=some ⟨1,k,s⟩
 ·rw[bC h,bC (qj.1 h)]
 ·rw[bB h,bB (λe=>h (qj.2 e))]
def OX {k:Int}:zr k s=if l8 s=some ⟨1,k,s⟩then 0 else 3:=by
 unfold zr;split
 ·rename_i h;rw[bB ?_];intro e;obtain⟨h1,h2⟩:=qj.1 e;have hf:uz ⟨1,k,s⟩:=Kf (s:=s) (fx:=false) (by rw[h2];exact kU.2 rfl);rcases h with h|h
  ·have:=(hf rfl).1;simp only at this;omega
  ·exact h (tT h1).1
 ·exact aaX
def rY:iV s=true↔s.length<=10/\(∀b∈s,bL b=true)/\mB s:=by
 unfold iV;rw[cE,cE,dA,xE,and_assoc];refine and_congr_right λ_=>and_congr_right λhd=> ?_
 match s with
 |[]=>
  constructor
  ·intro h;cases h
  ·rintro(h|⟨c,r,h,_⟩)<;>simp at h
 |c::r=>
  show (!decide (c=48)||decide (c::r=[48]))=true↔_;rw[gO,iL,gL,dA];constructor
  ·rintro(h|h)
   ·exact Or.inr ⟨c,r,rfl,h⟩
   ·rw[h];exact Or.inl rfl
  ·rintro(h|⟨c',r',h,h2⟩)
   ·simp only[dz]at h;have:r=[]:=iK bu;subst this;by_cases hc:c=48
    ·subst hc;exact Or.inr rfl
    ·exact Or.inl hc
   ·injection h with h3 h4;subst h3;exact Or.inl h2
def abY (hs:digR s 0=s.length): ∀b∈s,bL b=true:=by unfold digR at hs;rw[d7]at hs;have h1:(s.takeWhile bL).length=s.length:=hs;have h2:s.takeWhile bL=s:=(xP bL).eq_of_length h1;intro b hb;rw[<-h2]at hb;exact ky _ b hb
def nQ {p:UInt8->Bool}: ∀(l:List UInt8),(∀b∈l,p b=true)->l.takeWhile p=l
 |[],_=>rfl|c::r,h=>by rw[lx,h c bE,bC rfl,nQ r λb hb=>h b (fw _ hb)]
def Fw:IH s=true↔iV s=true/\2147483647<valD 0 s:=by
 constructor
 ·intro h;unfold IH at h;simp only[cE,dA,iL,ot,gL]at h;obtain⟨h1,h2,h3,h4,h5⟩:=h;have hd:=abY (s:=s) (by rw[h2,h1]);refine⟨rY.2 ⟨bu,hd,?_⟩,?_⟩
  ·match s,h1 with
   |c::r,_=>exact Or.inr ⟨c,r,rfl,by simpa[rZ]using h3⟩
  ·rcases y4 s fK (by rw[h1];rfl)with h|h|h
   ·rw[h]at h4;cases h4
   ·exact absurd h h5
   ·have:=uG fK s (by rw[h1];rfl) zb hd h;rw[qK]at this;exact this
 ·rintro⟨h1,h2⟩;obtain⟨a,b,c⟩:=rY.1 h1;have h10:s.length=10:=by
   have hb:=(je s 0 b).2;by_cases h:s.length<=9
   ·have:10^s.length<=10^9:=sH bu h;omega
   ·omega
  have e1:digR s 0=10:=by unfold digR;rw[d7,nQ s b,h10]
  have e2:rZ (λc=> !decide (c=48)) s=true:=by
   rcases c with c|⟨x,r,rfl,hx⟩
   ·omega
   ·simpa[rZ]using hx
  have e3:Op.bytesLess s fK=false:=by
   cases h:Op.bytesLess s fK with|false=>rfl|true=>have:=uG s fK (by rw[h10];rfl) b zb h;rw[qK]at this;omega
  have e4:s≠fK:=λe=>by rw[e,qK]at h2;omega
  unfold IH;rw[co h10,co e1,e2,e3,cl e4];rfl
def aa7 {t:Tok}{c:UInt8}{kept:List Nat}(hT:ez s=0)(h0:s[0]? =some c)(hc:c≠32)(h:fp false s 0 c= .ok (t,s.length,kept)):l8 s=some t:=by
 obtain⟨r,hs⟩: ∃r,s=c::r:=by
  cases s with|nil=>cases h0|cons x r=>simp at h0;exact⟨r,by rw[h0]⟩
 have hb0:cB (s.drop 0)=0:=by rw[d7,hs];unfold cB;simp[hc]
 have hg:(s[0]?).getD 0=c:=by rw[h0];rfl
 have htok:jn false s [] 0= .ok (t,s.length,kept):=by rw[tG,hg,h]
 have hlen:s.length≠0:=by rw[hs];simp
 have hsp:eN false s (s.length+1) 0 [] []=(none,[t],kept):=by unfold eN;rw[hb0,j8,bB bu,htok];simp only[eR];obtain⟨k,hk⟩: ∃k,s.length=k+1:=⟨s.length-1,bu⟩;rw[show eN false s s.length s.length [t] kept=eN false s (k+1) s.length [t] kept from by rw[<-hk]];unfold eN;rw[bC bu]
 have hsc:dn false s=⟨[t],kept,1,0⟩:=by unfold dn;rw[bC hT,hsp];rfl
 refine qj.2 ⟨by rw[hsc],?_⟩;unfold gS;rw[hsc];rfl
def PM (h1:iV s=true)(h2:valD 0 s<=2147483647):l8 s=some ⟨1,0,s⟩:=by
 obtain⟨a,b,c⟩:=rY.1 h1;have h0:s≠[]:=by
  rintro rfl;rcases c with c|⟨x,r,h,_⟩
  ·simp at c
  ·cases h
 have hT:ez s=0:=by unfold ez jT;rw[bB bu,bC];rw[iL,List.any_eq_false];intro x hx;have:=fP.1 (b x hx);simp only[gO,dA,rb];omega
 have hW:fc false bL s 0=s:=by rw[gz gI,d7,nQ s b]
 have hE:runE false bL s 0=s.length:=by rw[g9 gI,d7,nQ s b,fZ]
 have hA:atC false s s.length=0:=by rw[fE,eB (ct _)];rfl
 have hD:e8 false s 0=false:=by unfold e8;rw[hE,hA];rfl
 have hN:numEnd false s 0=s.length:=by unfold numEnd;rw[hD];exact hE
 have hX:(cz false s s.length).2.2.2=false:=by
  unfold cz;have:fl false s s.length=0:=by unfold fl;rw[hA];rfl
  rw[this];rfl
 have hI:eK s= .ok ⟨1,0,s⟩:=by
  have ha:=ja b h0 a;have hv:eD s=(valD 0 s:Nat):=by unfold eD;rw[ha]
  have hk:oz s=true:=by unfold oz;rw[ha]
  unfold eK;rw[bB (by rw[hk,hv];simp;omega),hv,oG,Ii s.length s rfl b c]
 have hnum:fa false s 0= .ok (⟨1,0,s⟩,s.length):=by unfold fa;simp only[hN,hX,hD];rw[show dU false s 0=s from hW,hI];rfl
 obtain⟨x,r,hs⟩: ∃x r,s=x::r:=by
  cases s with|nil=>exact absurd rfl h0|cons x r=>exact⟨x,r,rfl⟩
 have hx:bL x=true:=b x (by rw[hs];simp);have hxl:cM x=false:=by have:=fP.1 hx;unfold cM;rw[ot,sG,sG,gL,gL,gL];omega
 refine aa7 (c:=x) (kept:=[]) hT (by rw[hs];rfl) (λe=>by rw[e]at hx;exact absurd hx cf) ?_;unfold fp;rw[hxl,hx,hnum];rfl
def GD:l8 s=some ⟨1,0,s⟩↔iV s=true/\valD 0 s<=2147483647:=by
 constructor
 ·intro h;obtain⟨h1,h2⟩:=qj.1 h;have hf:uz ⟨1,0,s⟩:=Kf (s:=s) (fx:=false) (by rw[h2];exact kU.2 rfl);obtain⟨m,hm,ht⟩:=(hf rfl).2.1 rfl;simp only at ht;have hs:=mP 10 m bu bu;refine⟨rY.2 ⟨by rw[ht];exact hs,by rw[ht];exact wS m,by rw[ht];exact MH m⟩,by rw[ht,tV];exact hm⟩
 ·rintro⟨h1,h2⟩;exact PM h1 h2
def abU (k:Int):pQ k s=Hl k s:=by
 unfold pQ Hl;by_cases h0:k=0
 ·subst h0;rw[bC rfl,OX];simp only[jW];rw[show (!(decide ((0:Int)<=0)&&decide ((0:Int)<=6))||(decide ((0:Int)=3)||decide ((0:Int)=4)))=false from rfl,bB (by simp: ¬(false=true))];by_cases hf:iV s=true
  ·rw[bC hf];by_cases hv:2147483647<valD 0 s
   ·rw[bC hv,bC (Fw.2 ⟨hf,hv⟩)]
   ·rw[bB hv,bB (λe=>hv (Fw.1 e).2),bC (GD.2 ⟨hf,bu⟩)]
  ·rw[bB hf,bB (λe=>hf (Fw.1 e).1),bB (λe=>hf (GD.1 e).1)]
 ·rw[bB h0];simp only[h0,false_and,du];by_cases h:k=1\/k=2\/k=5\/k=6
  ·have hk:(!(decide (0<=k)&&decide (k<=6))||(decide (k=3)||decide (k=4)))=false:=by rcases h with rfl|rfl|rfl|rfl<;>decide
   rw[bC h,hk,bB (by simp: ¬(false=true)),OX]
  ·rw[bB h,bC];simp only[gO,iL,sG,gL,dA];omega
def adv (t:Tok):oa t=WN t:=by
 unfold oa WN;by_cases h1:t.kind=1
 ·rw[bC h1,bB (by rw[h1];decide),bC h1,abU]
 ·rw[bB h1,bB h1];by_cases h:t.kind=0\/t.kind=2
  ·have hk:(!(decide (0<=t.kind)&&decide (t.kind<=2)))=false:=by rcases h with h|h<;>(rw[h];decide)
   rw[bC h,hk,bB (by simp: ¬(false=true))]
  ·rw[bB h,bC];simp only[iL,sG,gL];omega
end
def GC: ∀(u:List UInt8),(∀b∈u,b≠39)->Lib.index u [39,39]= -1
 |[],_=>rfl|c::r,h=>by
  have hp:(([39,39]:List UInt8).isPrefixOf (c::r))=false:=by
   have:(39 == c)=false:=by simpa using λe:39=c=>h c bE e.symm
   simp[List.isPrefixOf,this]
  have:=GC r λb hb=>h b (fw _ hb);simp only[Lib.index,hp,this];rfl
def BB: ∀(a l:List UInt8),(∀b∈a,b≠39)->Lib.index (a++39::39::l) [39,39]=(a.length:Int)
 |[],l,_=>by simp[Lib.index,List.isPrefixOf]|c::r,l,h=>by
  have hp:(([39,39]:List UInt8).isPrefixOf (c::(r++39::39::l)))=false:=by
   have:(39 == c)=false:=by simpa using λe:39=c=>h c bE e.symm
   simp[List.isPrefixOf,this]
  have h1:=BB r l λb hb=>h b (fw _ hb);have hne:(Lib.index (r++39::39::l) [39,39] == -1)=false:=by rw[h1];simp;try omega
  rw[eH];simp only[Lib.index,hp,hne,h1];simp
def Um (l:List UInt8):(∀b∈l,b≠39)\/ ∃a r,l=a++39::r/\ ∀b∈a,b≠39:=by
 rcases rm l 39 with⟨_,h⟩|⟨a,r,h1,h2,_⟩
 ·exact Or.inl h
 ·exact Or.inr ⟨a,r,h1,h2⟩
def Ch: ∀(k:Nat) (u:List UInt8),Lib.count (dbl u) [39,39]<=k->Lib.replaceK [39,39] [39] k (dbl u)=u
 |0,u,h=>by
  rcases Um u with h2|⟨a,r,h1,h2⟩
  ·have:=oX u [] h2;simp only[fy,dbl]at this;rw[this];rfl
  ·exfalso;have hd:dbl u=a++39::39::dbl r:=by rw[h1,oX a _ h2,dbl,bC rfl]
   have:=Lib.count_hit (sub:=[39,39]) bE (BB a (dbl r) h2);rw[hd]at h;omega
 |k+1,u,h=>by
  rcases Um u with h2|⟨a,r,h1,h2⟩
  ·have:=oX u [] h2;simp only[fy,dbl]at this;rw[this,Lib.replaceK,GC u h2];rfl
  ·have hd:dbl u=a++39::39::dbl r:=by rw[h1,oX a _ h2,dbl,bC rfl]
   have hi:=BB a (dbl r) h2;rw[<-hd]at hi;have hc:=Lib.count_hit (sub:=[39,39]) bE hi;rw[Lib.replaceK_hit _ _ _ _ _ hi];have hdr:(dbl u).drop (a.length+([39,39]:List UInt8).length)=dbl r:=by rw[hd,<-ib,Dr rfl];rfl
   have ht:(dbl u).take a.length=a:=by rw[hd,xF rfl]
   rw[hdr]at hc;rw[hdr,ht,Ch k r bu,h1];simp
def Up (u:List UInt8):Lib.replaceAll (dbl u) [39,39] [39]=u:=by unfold Lib.replaceAll Lib.replace Lib.replaceNum;rw[bB cf,bC (Or.inl cf)];exact Ch _ _ (ct _)
def Vg (u:List UInt8):(dZ u).length=(dbl u).length+2:=by unfold dZ;simp only[ef,dz,fL];omega
section
variable {μ:Mu}{s:List UInt8}
def mid (s:List UInt8):List UInt8:=(s.drop 1).take (s.length-2)
end
def dX (ty p:Int):List UInt8:=if ty=2 then [68]++Lib.itoa p else if p≠0 then [69]++Lib.itoa p else []
def fH (W P:List UInt8)(ty p:Int):List UInt8:=W++(46::(P++dX ty p))
structure RealOK (W P:List UInt8) (ty p:Int):Prop where
 wd: ∀b∈W,bL b=true
 wl:mB W
 pd: ∀b∈P,bL b=true
 pl:mB P.reverse
 cnt:countR W+countR P<=30
 p1: -999<=p
 p2:p<=999
 ty:ty=1\/ty=2
def jp {l:List UInt8}(h:mB l):l≠[]:=by
 rintro rfl;rcases h with h|⟨c,r,h,_⟩
 ·simp at h
 ·cases h
def Pe {l:List UInt8}(h:mB l):d8 l=l:=by
 match l,h with
 |[],h=>rfl|[c],h=>rfl|c::d::r,h=>
  rcases h with h|⟨x,y,h,hx⟩
  ·simp at h
  ·injection h with h _;subst h;unfold d8;rw[bB hx]
def Ya {W:List UInt8}(h:mB W):before W=W:=by unfold before dx;rw[bB (jp h),Pe h]
def abJ {P:List UInt8}(h:mB P.reverse):after P=P:=by have h0:P≠[]:=λe=>jp h (by rw[e];rfl);unfold after dx na;rw[bB h0,Pe h,List.reverse_reverse]
section
variable {s:List UInt8}{n:Nat}
end
def yY (p:Int):(∃m:Nat,p=(m:Int)/\Lib.itoa p=Lib.decDigits m)\/ ∃m:Nat,1<=m/\p= -(m:Int)/\Lib.itoa p=45::Lib.decDigits m:=by
 by_cases h:0<=p
 ·obtain⟨m,rfl⟩: ∃m:Nat,p=(m:Int):=⟨p.toNat,bu⟩;exact Or.inl ⟨m,rfl,oG⟩
 ·obtain⟨m,rfl⟩: ∃m:Nat,p= -(m:Int):=⟨(-p).toNat,bu⟩;exact Or.inr ⟨m,bu,rfl,Fd bu⟩
def Gr (m:Nat):Lib.decDigits m≠[]:=jp (MH m)
def xm {W:List UInt8}{p:UInt8->Bool}: ∀(v r:List UInt8),(∀b∈v,p b=true)->(∀c t,r=c::t->p c=false)->(v++r).takeWhile p=v
 |[],[],_,_=>rfl|[],c::t,_,h=>by rw[eR,lx,h c t rfl];rfl|a::v,r,h1,h2=>by rw[eH,lx,h1 a bE,bC rfl,xm (W:=W) v r (λb hb=>h1 b (fw _ hb)) h2]
section
variable {W P:List UInt8}{ty p:Int}
def W6: ∀c t,dX ty p=c::t->bL c=false:=by
 intro c t h;unfold dX at h;split at h
 ·injection h with h _;subst h;decide
 ·split at h
  ·injection h with h _;subst h;decide
  ·cases h
end
def rd (u:List UInt8):Except Int (Tok×Nat):=nv (fp false u 0 ((u[0]?).getD 0))
def shN (m:Nat):Except Int (Tok×Nat)->Except Int (Tok×Nat)
 | .ok q=> .ok (q.1,m+q.2)| .error e=> .error e
section
variable {s:List UInt8}{m:Nat}
def nK {j:Nat}:atC false s (m+j)=atC false (s.drop m) j:=by rw[fE,fE,u0]
def rA {j:Nat}(hm:m<=s.length):atE false s (m+j)=m+atE false (s.drop m) j:=by rw[gu,gu,fY];split<;>split<;>omega
def Hq {p:UInt8->Bool}{j:Nat}(hp:p 0=false):fc false p s (m+j)=fc false p (s.drop m) j:=by rw[gz hp,gz hp,ib]
def vT {p:UInt8->Bool}{j:Nat}(hp:p 0=false):runE false p s (m+j)=m+runE false p (s.drop m) j:=by rw[g9 hp,g9 hp,ib];omega
def Cm {j:Nat}(hm:m<=s.length):dE false s (m+j)=((dE false (s.drop m) j).1,m+(dE false (s.drop m) j).2.1,(dE false (s.drop m) j).2.2):=by
 have h1:fM false s (m+j)=fM false (s.drop m) j:=by unfold fM;rw[rA hm,Hq r9]
 have h2:dotEnd false s (m+j)=m+dotEnd false (s.drop m) j:=by unfold dotEnd;rw[rA hm,vT r9,rA hm]
 have h3:jb false s (m+j)=jb false (s.drop m) j:=by unfold jb;rw[h1,rA hm,vT r9,nK]
 unfold dE;rw[nK,h1,h2,h3];split<;>rfl
def IN {j:Nat}(hm:m<=s.length):cz false s (m+j)=((cz false (s.drop m) j).1,(cz false (s.drop m) j).2.1,m+(cz false (s.drop m) j).2.2.1,(cz false (s.drop m) j).2.2.2):=by
 have h1:fl false s (m+j)=fl false (s.drop m) j:=by unfold fl;rw[nK]
 have h2:fm false s (m+j)=fm false (s.drop m) j:=by unfold fm;rw[rA hm,nK]
 have h3:expStart false s (m+j)=m+expStart false (s.drop m) j:=by unfold expStart;rw[rA hm,nK,rA hm];split<;>rfl
 have h4:cH false s (m+j)=cH false (s.drop m) j:=by unfold cH;rw[h3,Hq gI]
 unfold cz;rw[h1,h2,h3,h4,vT gI];split<;>rfl
def aa4 {j:Nat}(hm:m<=s.length):fa false s (m+j)=shN m (fa false (s.drop m) j):=by
 have h1:dU false s (m+j)=dU false (s.drop m) j:=by unfold dU;rw[Hq gI]
 have h2:e8 false s (m+j)=e8 false (s.drop m) j:=by unfold e8;rw[h1,vT gI,nK,Cm hm]
 have h3:gl false s (m+j)=gl false (s.drop m) j:=by unfold gl;rw[h2,vT gI,rA hm,Hq gI]
 have h4:numEnd false s (m+j)=m+numEnd false (s.drop m) j:=by unfold numEnd;rw[h2,vT gI,rA hm,vT gI];split<;>rfl
 unfold fa;simp only[h1,h2,h3,h4,IN hm];split
 ·cases eK (dU false (s.drop m) j)<;>rfl
 ·unfold fG;split
  ·rfl
  ·split<;>rfl
def aa5 {j:Nat}:gd s (m+j)=shN m (gd (s.drop m) j):=by
 unfold gd;rw[u0,ib,IS];cases eI ((s[m+j]?).getD 0) (s.drop (m+(j+1)))with
 |none=>rfl|some x=>
  simp only;split
  ·rfl
  ·simp only[shN];congr 2;omega
def ajD {j:Nat}(hm:m<=s.length):iu false s (m+j)=shN m (iu false (s.drop m) j):=by
 unfold iu;simp only[rA hm,nK];split
 ·rfl
 ·split
  ·rfl
  ·split
   ·rfl
   ·split<;>rfl
def mQ {q:Except Int (Tok×Nat)}:nv (noK q)=q:=by cases q<;>rfl
def abn {c:UInt8}(hm:m<=s.length):nv (fp false s m c)=shN m (nv (fp false (s.drop m) 0 c)):=by
 have a1:fc false cX s m=fc false cX (s.drop m) 0:=Hq (j:=0) uD;have a2:runE false cX s m=m+runE false cX (s.drop m) 0:=vT (j:=0) uD;have a3:atC false s (m+1)=atC false (s.drop m) (0+1):=nK (j:=1);have a4:fa false s m=shN m (fa false (s.drop m) 0):=aa4 (j:=0) hm;have a5:dE false s m=((dE false (s.drop m) 0).1,m+(dE false (s.drop m) 0).2.1,(dE false (s.drop m) 0).2.2):=Cm (j:=0) hm;have a6:iu false s m=shN m (iu false (s.drop m) 0):=ajD (j:=0) hm;have a7:nv (iE s m)=shN m (nv (iE (s.drop m) 0)):=by rw[lf,lf];exact aa5 (j:=0)
 unfold fp;rw[a1,a2,a3,a4,a5,a6];split
 ·split<;>rfl
 ·split
  ·rw[mQ,mQ]
  ·split
   ·split<;>rfl
   ·split
    ·exact a7
    ·rw[mQ,mQ]
def ahO (hm:m<=s.length):nv (fp false s m ((s[m]?).getD 0))=shN m (rd (s.drop m)):=by rw[abn hm];unfold rd;rw[u0,j8]
end
inductive Lex:List UInt8->List Tok->Prop
 |nil {u}:u.drop (cB u)=[]->Lex u []|cons {u v t e l}:u.drop (cB u)=v->v≠[]->rd v= .ok (t,e)->Lex (v.drop e) l->Lex u (t::l)
section
variable {s:List UInt8}
def adq {k n:Nat}{out:List Tok}{kept:List Nat}(h:n+cB (s.drop n)<s.length):
 (∃x,rd ((s.drop n).drop (cB (s.drop n)))= .error x/\eN false s (k+1) n out kept=(some (n+cB (s.drop n),x),out,kept))\/
 ∃t e kp,rd ((s.drop n).drop (cB (s.drop n)))= .ok (t,e)/\eN false s (k+1) n out kept=eN false s k (n+cB (s.drop n)+e) (out++[t]) (kept++kp):=by
 have hr:=ahO (s:=s) (m:=n+cB (s.drop n)) bu;rw[<-ib]at hr
 rw [show eN false s (k + 1) n out kept = (if s.length <= n + cB (s.drop n) then (none, out, kept)
  else match jn false s out (n+cB (s.drop n))with
   | .error e=>(some (n+cB (s.drop n),e),out,kept)
   | .ok q=>eN false s k q.2.1 (out++[q.1]) (kept++q.2.2))from rfl,bB bu,tG]
 cases ht:fp false s (n+cB (s.drop n)) ((s[n+cB (s.drop n)]?).getD 0)with
 |error x=>
  rw[ht]at hr;cases hx:rd ((s.drop n).drop (cB (s.drop n)))with
  |error y=>rw[hx]at hr;injection hr with hr;subst hr;exact Or.inl ⟨_,rfl,rfl⟩
  |ok q=>rw[hx]at hr;cases hr
 |ok q=>
  rw[ht]at hr;cases hx:rd ((s.drop n).drop (cB (s.drop n)))with
  |error y=>rw[hx]at hr;cases hr|ok r=>rw[hx]at hr;injection hr with hr;refine Or.inr ⟨r.1,r.2,q.2.2,rfl,?_⟩;have h1:q.1=r.1:=mE Prod.fst hr;have h2:q.2.1=n+cB (s.drop n)+r.2:=mE Prod.snd hr;simp only[h1,h2]
def ahF {v:List UInt8}{t:Tok}{e:Nat}(h0: ∀c r,v=c::r->c≠32)(hv:v≠[])(h:rd v= .ok (t,e)):1<=e/\e<=v.length:=by
 obtain⟨c,r,rfl⟩: ∃c r,v=c::r:=by
  cases v with|nil=>exact absurd rfl hv|cons c r=>exact⟨c,r,rfl⟩
 have hf:=zF (fx:=false) (s:=c::r) (out:=[]) (n:=0) (c:=c) rfl (h0 c r rfl);rw[tG]at hf;unfold rd at h;cases hq:fp false (c::r) 0 (((c::r)[0]?).getD 0)with
 |error x=>rw[hq]at h;cases h|ok q=>rw[hq]at h hf;injection h with h;have h2:q.2.1=e:=mE Prod.snd h;obtain⟨f1,f2,_⟩:=hf;omega
def PH (u:List UInt8): ∀c r,u.drop (cB u)=c::r->c≠32:=ri u
def abb: ∀(k n:Nat) (out:List Tok) (kept:List Nat) (o:List Tok) (kp:List Nat),s.length<n+k->n<=s.length->eN false s k n out kept=(none,o,kp)-> ∃l,o=out++l/\Lex (s.drop n) l:=by
 intro k
 induction k with
 |zero=>intro n out kept l kp h1 h2;omega|succ k ih=>
  intro n out kept o kp h1 h2 h;have hb:=rU (s.drop n);rw[fY]at hb;by_cases hlen:s.length<=n+cB (s.drop n)
  ·unfold eN at h;rw[bC hlen]at h;injection h with _ h;injection h with h _;refine⟨[],by rw[h];simp,.nil ?_⟩;rw[ib];exact dS hlen
  ·obtain⟨v,hv⟩: ∃v,v=(s.drop n).drop (cB (s.drop n)):=⟨_,rfl⟩;have hvl:v.length=s.length-(n+cB (s.drop n)):=by rw[hv,fY,fY];omega
   have hv0:v≠[]:=λe=>by rw[e]at hvl;simp at hvl;omega
   rcases adq (k:=k) (out:=out) (kept:=kept) (by omega:n+cB (s.drop n)<s.length)with⟨x,hx,hy⟩|⟨t',e',kq,hx,hy⟩
   ·rw[hy]at h;cases h
   ·rw[hy]at h;rw[<-hv]at hx;have hp:=ahF (by rw[hv];exact PH _) hv0 hx;obtain⟨l,h3,h4⟩:=ih _ _ _ _ _ bu bu h;refine⟨t'::l,by rw[h3];simp,.cons hv.symm hv0 hx ?_⟩;rw[<-ib,<-ib,<-hv]at h4;exact h4
def PQ (h:(dn false s).e=0):ez s=0/\Lex s (gS false s)/\(gS false s).length<=300:=by
 obtain⟨ht,hl,_⟩:=tT h;have hT:gS false s=(dn false s).toks:=by unfold gS;rw[bC h]
 refine⟨ht,?_⟩;rw[hT];unfold dn at h |-;rw[bC ht]at h |-;simp only at h |-;obtain⟨x,o,kp,hr⟩: ∃x o kp,eN false s (s.length+1) 0 [] []=(x,o,kp):=⟨_,_,_,rfl⟩;rw[hr]at h |-;simp only at h |-;cases x with
 |none=>
  obtain⟨l,h1,h2⟩:=abb (s:=s) (s.length+1) 0 [] [] o kp bu bu hr;simp only[eR]at h1;subst h1;rw[bC (show (eP none).2=0 from rfl)]at h |-;by_cases h3:300<o.length
  ·rw[bC h3]at h;exact absurd h bE
  ·rw[bB h3];exact⟨h2,by show o.length<=300;omega⟩
 |some w=>have:=Cq (fx:=false) (s:=s) (s.length+1) 0 [] [] w.1 w.2 (by rw[hr]);have e:(eP (some w)).2=w.2:=rfl;rw[e,bB this]at h;exact absurd h this
end
def hd (u:List UInt8):UInt8:=(u[0]?).getD 0
theorem nA {c:UInt8}{r:List UInt8}:hd (c::r)=c:=rfl
def gq {a b:List UInt8}(h:a≠[]):hd (a++b)=hd a:=by
 cases a with|nil=>exact absurd rfl h|cons c r=>rfl
def agl {p:UInt8->Bool}{u:List UInt8}(h:p (hd u)=false): ∀c t,u=c::t->p c=false:=by rintro c t rfl;exact h
def xu {p:UInt8->Bool}{v r:List UInt8}(h1: ∀b∈v,p b=true)(h2:p (hd r)=false):(v++r).takeWhile p=v:=xm (W:=[]) v r h1 (agl h2)
def qD {a b:List UInt8}:(a++b).drop a.length=b:=Dr rfl
theorem at0 {u:List UInt8}:atC false u 0=hd u:=rfl
theorem In (y:List UInt8):cz false y 0=if fl false y 0=69\/fl false y 0=68 then(fl false y 0,fm false y 0++cH false y 0,runE false bL y (expStart false y 0),!decide (cH false y 0=[]))else(0,[],0,false):=rfl
section
variable {W P y:List UInt8}
def m4 (hw: ∀b∈W,bL b=true)(hp: ∀b∈P,bL b=true)(hP:P≠[])(hy:bL (hd y)=false):
 fa false (W++46::(P++y)) 0=fG W P (cz false y 0).2.1 (cz false y 0).1 (cz false y 0).2.2.2 (W.length+1+P.length+(if(cz false y 0).2.2.2 then(cz false y 0).2.2.1 else 0)):=by
 obtain⟨u,hu⟩: ∃u,u=W++46::(P++y):=⟨_,rfl⟩;have hul:u.length=W.length+1+P.length+y.length:=by rw[hu];simp;omega
 have d1:u.drop W.length=46::(P++y):=by rw[hu];exact qD
 have d2:u.drop (W.length+1)=P++y:=by rw[<-ib,d1];rfl
 have d3:u.drop (W.length+1+P.length)=y:=by rw[<-ib,d2];exact qD
 have t0:(u.drop 0).takeWhile bL=W:=by rw[d7,hu];exact qY cf W _ hw
 have r0:runE false bL u 0=W.length:=by rw[g9 gI,t0,fZ]
 have w0:dU false u 0=W:=by unfold dU;rw[gz gI,t0]
 have c0:atC false u W.length=46:=by have:=nK (s:=u) (m:=W.length) (j:=0);rw[j8,d1]at this;rw[this];rfl
 have e0:atE false u W.length=W.length+1:=by rw[gu,bC bu]
 obtain⟨c,r,hcr⟩: ∃c r,P=c::r:=by
  cases P with|nil=>exact absurd rfl hP|cons c r=>exact⟨c,r,rfl⟩
 have hcd:bL c=true:=hp c (by rw[hcr];simp);have hcl:cM c=false:=by have:=fP.1 hcd;unfold cM;rw[ot,sG,sG,gL,gL,gL];omega
 have dt:(dE false u W.length).2.2=false:=by
  have h1:jb false u W.length=false:=by
   unfold jb;rw[e0,g9 r9,d2,hcr,eH,lx,hcl];have:atC false u (W.length+1)=c:=by have:=nK (s:=u) (m:=W.length+1) (j:=0);rw[j8,d2,hcr]at this;rw[this];rfl
   simp only[d6,du,fL,j8];rw[this,cl (by rintro rfl;exact absurd hcd cf)];rfl
  unfold dE;rw[bC c0];exact h1
 have nd:e8 false u 0=true:=by unfold e8;rw[r0,c0,dt];rfl
 have np:gl false u 0=P:=by unfold gl;rw[bC nd,r0,e0,gz gI,d2];exact xu hp hy
 have ne:numEnd false u 0=W.length+1+P.length:=by unfold numEnd;rw[bC nd,r0,e0,g9 gI,d2,xu hp hy]
 have hx:cz false u (W.length+1+P.length)=((cz false y 0).1,(cz false y 0).2.1,W.length+1+P.length+(cz false y 0).2.2.1,(cz false y 0).2.2.2):=by have:=IN (s:=u) (m:=W.length+1+P.length) (j:=0) bu;rw[d3]at this;exact this
 rw[<-hu];unfold fa;simp only[nd,w0,np,ne,hx,cS,ov,d6,du];cases (cz false y 0).2.2.2<;>rfl
def B6 (hw: ∀b∈W,bL b=true)(h0:W≠[])(hy:bL (hd y)=false)(hdot:hd y=46->jb false y 0=true):
 fa false (W++y) 0=if(cz false y 0).2.2.2 then fG W [] (cz false y 0).2.1 (cz false y 0).1 true (W.length+(cz false y 0).2.2.1)else(match eK W with| .ok t=> .ok (t,W.length)| .error e=> .error e):=by
 obtain⟨u,hu⟩: ∃u,u=W++y:=⟨_,rfl⟩;have hul:u.length=W.length+y.length:=by rw[hu];simp
 have d1:u.drop W.length=y:=by rw[hu];exact qD
 have t0:(u.drop 0).takeWhile bL=W:=by rw[d7,hu];exact xu hw hy
 have r0:runE false bL u 0=W.length:=by rw[g9 gI,t0,fZ]
 have w0:dU false u 0=W:=by unfold dU;rw[gz gI,t0]
 have c0:atC false u W.length=hd y:=by have:=nK (s:=u) (m:=W.length) (j:=0);rw[j8,d1]at this;rw[this];rfl
 have hdt:dE false u W.length=((dE false y 0).1,W.length+(dE false y 0).2.1,(dE false y 0).2.2):=by have:=Cm (s:=u) (m:=W.length) (j:=0) bu;rw[d1]at this;exact this
 have nd:e8 false u 0=false:=by
  unfold e8;rw[r0,c0,w0,hdt];by_cases h46:hd y=46
  ·have:(dE false y 0).2.2=true:=by unfold dE;rw[at0,bC h46];exact hdot h46
   rw[this,cl h0];simp
  ·rw[cl h46];rfl
 have ne:numEnd false u 0=W.length:=by unfold numEnd;rw[nd,r0];rfl
 have np:gl false u 0=[]:=by unfold gl;rw[nd];rfl
 have hx:cz false u W.length=((cz false y 0).1,(cz false y 0).2.1,W.length+(cz false y 0).2.2.1,(cz false y 0).2.2.2):=by have:=IN (s:=u) (m:=W.length) (j:=0) bu;rw[d1]at this;exact this
 rw[<-hu];unfold fa;simp only[nd,w0,np,ne,hx,c8,ic];cases (cz false y 0).2.2.2<;>rfl
def tR {w p d:List UInt8}{L:UInt8}{ok:Bool}{e:Nat}{q:Tok×Nat}(h:fG w p d L ok e= .ok q):q.1.kind=1/\(q.1.type=1\/q.1.type=2)/\q.2=e:=by
 unfold fG at h;split at h
 ·cases h
 ·injection h with h;subst h;unfold gn;split
  ·exact⟨rfl,Or.inr rfl,rfl⟩
  ·split
   ·exact⟨rfl,Or.inl rfl,rfl⟩
   ·exact⟨rfl,Or.inl rfl,rfl⟩
def uy {L:UInt8}{sg D r:List UInt8}(hL:L=69\/L=68)(hsg:sg=[]\/sg=[45])(hD: ∀b∈D,bL b=true)(h0:D≠[])(hr:bL (hd r)=false):
 cz false (L::(sg++(D++r))) 0=(L,sg++D,1+sg.length+D.length,true):=by
 obtain⟨c,q,hcq⟩: ∃c q,D=c::q:=by
  cases D with|nil=>exact absurd rfl h0|cons c r=>exact⟨c,r,rfl⟩
 have hcd:bL c=true:=hD c (by rw[hcq];simp);obtain⟨u,hu⟩: ∃u,u=L::(sg++(D++r)):=⟨_,rfl⟩;have hul:u.length=1+sg.length+D.length+r.length:=by rw[hu];simp;omega
 have hD1:1<=D.length:=by rw[hcq];simp
 have hxL:fl false u 0=L:=by unfold fl;rw[at0,hu,nA];rcases hL with rfl|rfl<;>rfl
 have e0:atE false u 0=1:=by rw[gu,bC bu]
 have hboth:expStart false u 0=1+sg.length/\fm false u 0=sg:=by
  unfold expStart fm;rcases hsg with rfl|rfl
  ·have c1:atC false u 1=c:=by rw[fE,hu,hcq];rfl
   have n43:c≠43:=by rintro rfl;exact absurd hcd cf
   have n45:c≠45:=by rintro rfl;exact absurd hcd cf
   rw[e0,c1,bB n45,bB (by simp[n43,n45])];exact⟨rfl,rfl⟩
  ·have c1:atC false u 1=45:=by rw[fE,hu];rfl
   rw[e0,c1,bC rfl,bC (Or.inr rfl),gu,bC (by rw[hul];simp;omega)];exact⟨rfl,rfl⟩
 obtain⟨hst,hsi⟩:=hboth;have d1:u.drop (1+sg.length)=D++r:=by rw[Nat.add_comm,hu,tW];exact qD
 have hdi:cH false u 0=D:=by unfold cH;rw[hst,gz gI,d1];exact xu hD hr
 have hre:runE false bL u (1+sg.length)=1+sg.length+D.length:=by rw[g9 gI,d1,xu hD hr]
 rw[<-hu,In,hxL,bC hL,hsi,hdi,hst,hre,cl h0];rfl
def yO {y:List UInt8}(h:hd y≠69/\hd y≠101/\hd y≠68/\hd y≠100):(cz false y 0).2.2.2=false:=by
 rw[In,bB];unfold fl;rw[at0];have:=tu (hd y);rintro(h1|h1)
 ·rcases this.1.1 h1 with h2|h2
  ·exact h.1 h2
  ·exact h.2.1 h2
 ·rcases this.2.1 h1 with h2|h2
  ·exact h.2.2.1 h2
  ·exact h.2.2.2 h2
def ab4 {a c:UInt8}{r:List UInt8}(h1:bL c=false)(h2:c≠43)(h3:c≠45):(cz false (a::c::r) 0).2.2.2=false:=by
 have e0:atE false (a::c::r) 0=1:=rfl;have c1:atC false (a::c::r) 1=c:=rfl;have hst:expStart false (a::c::r) 0=1:=by unfold expStart;rw[e0,c1,bB (by simp[h2,h3])]
 have hdi:cH false (a::c::r) 0=[]:=by unfold cH;rw[hst,gz gI];show List.takeWhile bL (c::r)=[];rw[lx,h1];rfl
 rw[In];split
 ·rw[hdi];rfl
 ·rfl
end
def tO {c:UInt8}(h:bL c=true):cM c=false:=by have:=fP.1 h;unfold cM;rw[ot,sG,sG,gL,gL,gL];omega
def ss {u:List UInt8}(h:bL (hd u)=true\/(hd u=46/\bL (hd (u.drop 1))=true)):rd u=fa false u 0:=by
 have e1:atC false u (0+1)=hd (u.drop 1):=by have:=nK (s:=u) (m:=1) (j:=0);exact this
 unfold rd fp;rw[show (u[0]?).getD 0=hd u from rfl,e1];rcases h with h|⟨h1,h2⟩
 ·rw[tO h,h,bB bE,Bool.true_or,bC rfl,mQ]
 ·rw[h1,h2,bB cf,show (bL 46||(decide ((46:UInt8)=46)&&true))=true from rfl,bC rfl,mQ]
def OS {u:List UInt8}(h:cM (hd u)=true):rd u=if 31<(u.takeWhile cX).length then .error 4 else .ok (⟨0,0,(u.takeWhile cX).map upB⟩,(u.takeWhile cX).length):=by unfold rd fp;rw[show (u[0]?).getD 0=hd u from rfl,h,bC rfl,abo,gz uD,g9 uD,d7,fZ];split<;>rfl
def ahE {u:List UInt8}(h:hd u=46)(h2:bL (hd (u.drop 1))=false):rd u=if jb false u 0 then .ok (fC (fM false u 0),dotEnd false u 0)else .error 7:=by
 have e1:atC false u (0+1)=hd (u.drop 1):=by have:=nK (s:=u) (m:=1) (j:=0);exact this
 unfold rd fp;rw[show (u[0]?).getD 0=hd u from rfl,e1,h,h2,bB cf,show (bL 46||(decide ((46:UInt8)=46)&&false))=false from rfl,bB bE,bC rfl];unfold dE;rw[at0,bC h];simp only;split<;>rfl
def OU {u:List UInt8}(h:hd u=39\/hd u=34):rd u=gd u 0:=by
 unfold rd fp;rw[show (u[0]?).getD 0=hd u from rfl];rcases h with h|h
 ·rw[h,bB cf,show (bL 39||(decide ((39:UInt8)=46)&&bL (atC false u (0+1))))=false from rfl,bB bE,bB cf,bC cf,lf]
 ·rw[h,bB cf,show (bL 34||(decide ((34:UInt8)=46)&&bL (atC false u (0+1))))=false from rfl,bB bE,bB cf,bC cf,lf]
def K3 (c:UInt8):Bool:= !(cM c||bL c||decide (c=46)||decide (c=39)||decide (c=34)||decide (c=32)||decide (c=0))
def xh {c:UInt8}{r:List UInt8}(h:K3 c=true):rd (c::r)=opC c (r[0]?) 0:=by unfold K3 at h;simp only[iL,ot,gL]at h;obtain⟨⟨⟨⟨⟨⟨h1,h2⟩,h3⟩,h4⟩,h5⟩,h6⟩,h7⟩:=h;unfold rd fp;rw[show ((c::r)[0]?).getD 0=c from rfl,h1,bB bE,h2,cl h3,bB bE,bB h3,bB (by simp[h4,h5]),mQ,aaz (s:=c::r) (n:=0) (c:=c) rfl h6];rfl
section
variable {μ:Mu}{s:List UInt8}
section
variable {W P:List UInt8}{ty p:Int}
def Bl (h1: -999<=p)(h2:p<=999):eD (Lib.itoa p)=p:=by
 rcases yY p with⟨m,rfl,hi⟩|⟨m,hm,rfl,hi⟩
 ·have hl:=mP 3 m bu bu;rw[hi];unfold eD;rw[ja (wS m) (Gr m) bu,tV]
 ·have hl:=mP 3 m bu bu;rw[hi];unfold eD;rw[yG (wS m) (Gr m) bu,tV]
end
end
section
variable {μ:Mu}{s:List UInt8}
section
variable {W P:List UInt8}{ty p:Int}{a:List UInt8}{b:Int}
def Hy (l:List UInt8):ei (l++[48])=ei l:=by unfold ei Lib.trimRightB;rw[List.reverse_append];simp[Dm]
def Eh {l:List UInt8}{c:UInt8}(h:c≠48):ei (l++[c])=l++[c]:=by unfold ei Lib.trimRightB;rw[List.reverse_append];simp[Dm,h]
end
end
inductive VT:Tok->Prop
 |name {a}:mO a=true->VT ⟨0,0,a⟩|int {a}:iV a=true->valD 0 a<=2147483647->VT ⟨1,0,a⟩|fG {W P ty p}:RealOK W P ty p->VT ⟨1,ty,fH W P ty p⟩|logic {a}:a=kh\/a=jh->VT ⟨1,5,a⟩|chars {u}:jT u=true->u.length<=60->VT ⟨1,6,dZ u⟩|word {a}:a∈ek->VT ⟨2,0,a⟩|sign {a}:a∈dl->VT ⟨2,0,a⟩
section
variable {a r:List UInt8}
def lD (h:mO a=true):a.length<=31/\cM (hd a)=true/\(∀b∈a,cX b=true)/\a.map upB=a/\a≠[]:=by
 unfold mO C2 at h;simp only[cE,dA,iL]at h;obtain⟨⟨⟨h1,h2⟩,h3⟩,h4⟩:=h;cases a with|nil=>cases h2|cons c t=>exact⟨h1,h2,λb hb=>xE.1 h3 b hb,(od _).2 h4,bE⟩
def Ui (h:mO a=true)(hr:cX (hd r)=false):rd (a++r)= .ok (⟨0,0,a⟩,a.length):=by obtain⟨h1,h2,h3,h4,h5⟩:=lD h;rw[OS (by rw[gq h5];exact h2),xu h3 hr,bB bu,h4]
def kJ (h:iV a=true):a.length<=10/\(∀b∈a,bL b=true)/\mB a/\a≠[]/\bL (hd a)=true:=by
 obtain⟨h1,h2,h3⟩:=rY.1 h;have h0:a≠[]:=jp h3;refine⟨h1,h2,h3,h0,?_⟩;cases a with|nil=>exact absurd rfl h0|cons c t=>exact h2 c bE
def aeU (h:iV a=true)(h2:valD 0 a<=2147483647):eK a= .ok ⟨1,0,a⟩:=by
 obtain⟨f1,f2,f3,f4,_⟩:=kJ h;have ha:=ja f2 f4 f1;have hv:eD a=(valD 0 a:Nat):=by unfold eD;rw[ha]
 have hk:oz a=true:=by unfold oz;rw[ha]
 unfold eK;rw[bB (by rw[hk,hv];simp;omega),hv,oG,Ii a.length a rfl f2 f3]
def aaU (h:iV a=true)(h2:valD 0 a<=2147483647)(hr:bL (hd r)=false)(hdot:hd r=46->jb false r 0=true)(hx:(cz false r 0).2.2.2=false):rd (a++r)= .ok (⟨1,0,a⟩,a.length):=by obtain⟨f1,f2,f3,f4,f5⟩:=kJ h;rw[ss (Or.inl (by rw[gq f4];exact f5)),B6 f2 f4 hr hdot,hx,bB bE,aeU h h2]
section
variable {W P:List UInt8}{ty p:Int}
def xi (h:RealOK W P ty p):P≠[]:=λe=>jp h.pl (by rw[e];rfl)
def sC (W W':List UInt8):Prop:=W'=W\/(W=[48]/\W'=[])
def abr (h:RealOK W P ty p){W':List UInt8}(hW:sC W W'): ∀b∈W',bL b=true:=by
 rcases hW with rfl|⟨_,rfl⟩
 ·exact h.wd
 ·intro b hb;cases hb
def tH (h:RealOK W P ty p){W':List UInt8}(hW:sC W W'):dx (gB W')=W/\(gB W').length=countR W:=by
 have h1:dx (gB W)=W:=by rw[<-Bm,Ya h.wl]
 rcases hW with rfl|⟨h2,rfl⟩
 ·exact⟨h1,by rw[<-yL,h1]⟩
 ·rw[h2];exact⟨rfl,rfl⟩
def Cy (h:RealOK W P ty p):dx (ei P)=P/\(ei P).length=countR P:=by
 have h1:dx (ei P)=P:=by rw[<-EY,abJ h.pl]
 exact⟨h1,by rw[<-wb,h1]⟩
def ahP (l:List UInt8):ei (l++[48])=ei l:=Hy l
def OT {W' y:List UInt8}(h:RealOK W P ty p)(hW:sC W W')(P':List UInt8)(hP':P'=P\/P'=P++[48])(hy:bL (hd y)=false):
 rd (W'++46::(P'++y))=fG W' P' (cz false y 0).2.1 (cz false y 0).1 (cz false y 0).2.2.2 (W'.length+1+P'.length+(if(cz false y 0).2.2.2 then(cz false y 0).2.2.1 else 0)):=by
 have hP:=xi h;have hd': ∀b∈P',bL b=true:=by
  rcases hP' with rfl|rfl
  ·exact h.pd
  ·intro b hb;rcases gt.1 hb with hb|hb
   ·exact h.pd b hb
   ·rw[kU.1 hb];rfl
 have hne:P'≠[]:=by rcases hP' with rfl|rfl<;>simp[hP]
 rw[ss ?_,m4 (abr h hW) hd' hne hy];have hW0:=jp h.wl;rcases hW with rfl|⟨_,rfl⟩
 ·left;rw[gq hW0];cases W' with|nil=>exact absurd rfl hW0|cons c t=>exact h.wd c bE
 ·right;refine⟨rfl,?_⟩;show bL (hd (P'++y))=true;rw[gq hne];cases P' with|nil=>exact absurd rfl hne|cons c t=>exact hd' c bE
def HA (h:RealOK W P ty p){P':List UInt8}(hP':P'=P\/P'=P++[48]):dx (ei P')=P/\(ei P').length=countR P:=by
 rcases hP' with rfl|rfl
 ·exact Cy h
 ·rw[ahP];exact Cy h
def zq (h:RealOK W P ty p){W' P':List UInt8}(hW:sC W W')(hP':P'=P\/P'=P++[48]):iY W' P'=W++[46]++P:=by unfold iY;rw[(tH h hW).1,(HA h hP').1]
def FA {W' P' y:List UInt8}(h:RealOK W P 1 0)(hW:sC W W')(hP':P'=P\/P'=P++[48])(hy:bL (hd y)=false)(hx:(cz false y 0).2.2.2=false):
 rd (W'++46::(P'++y))= .ok (⟨1,1,fH W P 1 0⟩,W'.length+1+P'.length):=by
 have hc:=h.cnt;rw[OT h hW P' hP' hy,hx];unfold fG pe;rw[(tH h hW).2,(HA h hP').2,cl bu,Jg,xH,bB bE];unfold gn jq;simp only[d6,and_false,du,cQ,j8];rw[zq h hW hP'];unfold fH dX;rw[bB cf,bB bE];simp
def GH (p:Int): ∃sg D,Lib.itoa p=sg++D/\(sg=[]\/sg=[45])/\(∀b∈D,bL b=true)/\D≠[]/\(sg=[45]->1<=valD 0 D/\p= -(valD 0 D:Nat))/\(sg=[]->p=(valD 0 D:Nat))/\(p=0->D=[48]):=by
 rcases yY p with⟨m,h1,h2⟩|⟨m,h0,h1,h2⟩
 ·refine⟨[],Lib.decDigits m,h2,Or.inl rfl,wS m,Gr m,λe=>absurd e bE,λ_=>by rw[tV,h1],λe=> ?_⟩;have:m=0:=bu;subst this;exact oY bu
 ·exact⟨[45],Lib.decDigits m,h2,Or.inr rfl,wS m,Gr m,λ_=>by rw[tV];exact⟨h0,h1⟩,λe=>absurd e bE,λe=>by omega⟩
def af8:eD [48,48]=0:=by unfold eD;rw[ja cf bE cf];rfl
def FB {W' z r:List UInt8}(h:RealOK W P ty p)(hp:ty=2\/p≠0)(hW:sC W W')(hz:z=[]\/(z=[48]/\p=0))(hr:bL (hd r)=false):
 rd (W'++46::(P++(dX ty p++(z++r))))= .ok (⟨1,ty,fH W P ty p⟩,W'.length+1+P.length+(dX ty p).length+z.length):=by
 obtain⟨sg,D,h1,h2,h3,h4,h5,h6,h7⟩:=GH p;have hc:=h.cnt;obtain⟨L,hL,hT⟩: ∃L,((L=68/\ty=2)\/(L=69/\ty=1/\p≠0))/\dX ty p=L::(sg++D):=by
  unfold dX;rcases h.ty with ht|ht
  ·have hp':p≠0:=hp.resolve_left (by rw[ht];decide);exact⟨69,Or.inr ⟨rfl,ht,hp'⟩,by rw[bB (by rw[ht];decide),bC hp',h1];rfl⟩
  ·exact⟨68,Or.inl ⟨rfl,ht⟩,by rw[bC ht,h1];rfl⟩
 have hDz: ∀b∈D++z,bL b=true:=by
  intro b hb;rcases gt.1 hb with hb|hb
  ·exact h3 b hb
  ·rcases hz with rfl|⟨rfl,_⟩
   ·cases hb
   ·rw[kU.1 hb];rfl
 have hy:dX ty p++(z++r)=L::(sg++((D++z)++r)):=by rw[hT];simp
 have hLs:L=69\/L=68:=by rcases hL with h|h;exact Or.inr h.1;exact Or.inl h.1
 have hE:=uy hLs h2 hDz (by simp[h4]) hr;have hyd:bL (hd (L::(sg++((D++z)++r))))=false:=by rw[nA];rcases hLs with rfl|rfl<;>rfl
 have hl3:D.length<=3:=by
  rcases yY p with⟨m,k1,k2⟩|⟨m,k0,k1,k2⟩
  ·have hp1:=h.p1;have hp2:=h.p2;have hm:=mP 3 m bu bu;have:(sg++D).length=(Lib.decDigits m).length:=by rw[<-h1,k2]
   simp only[ef]at this;omega
  ·have hp1:=h.p1;have hp2:=h.p2;have hm:=mP 3 m bu bu;have e:(sg++D).length=(Lib.decDigits m).length+1:=by rw[<-h1,k2];simp
   simp only[ef]at e;rcases h2 with rfl|rfl
   ·have:=h6 rfl;omega
   ·simp at e;omega
 have hzl:(D++z).length<=3:=by
  rcases hz with rfl|⟨rfl,hz0⟩
  ·simpa using hl3
  ·rw[h7 hz0];decide
 have hpre:(Lib.trimPrefix (sg++(D++z)) [45]).length<=3:=by
  rcases h2 with rfl|rfl
  ·rw[eR,(mn hDz).1];exact hzl
  ·rw[(mn hDz).2];exact hzl
 have hval:eD (sg++(D++z))=p:=by
  rcases hz with rfl|⟨rfl,hz0⟩
  ·rw[fy,<-h1];exact Bl h.p1 h.p2
  ·have:sg=[]:=by
    rcases h2 with h|h
    ·exact h
    ·have:=h5 h;omega
   rw[this,h7 hz0,hz0];exact af8
 rw[hy,OT h hW P (Or.inl rfl) hyd,hE];simp only[cQ];unfold fG pe;rw[(tH h hW).2,(Cy h).2,cl bu,cl bu,ov,xH,bB bE];unfold gn jq;simp only[cQ];rw[hval,zq h hW (Or.inl rfl)];have hlen:W'.length+1+P.length+(1+sg.length+(D++z).length)=W'.length+1+P.length+(dX ty p).length+z.length:=by rw[hT];simp;omega
 rw[hlen];rcases hL with⟨rfl,ht⟩|⟨rfl,ht,hp0⟩
 ·subst ht;rw[bC ⟨rfl,trivial⟩];unfold fH dX;rw[bC rfl];simp
 ·subst ht;rw[bB bE,bB (λe=>hp0 (JN.1 e))];unfold fH dX;rw[bB cf,bC hp0];simp
end
def OR {u:List UInt8}(hu:u.length<=60)(hr:hd r≠39):rd (dZ u++r)= .ok (⟨1,6,dZ u⟩,(dZ u).length):=by
 have h1:hd (dZ u++r)=39:=rfl;rw[OU (Or.inl h1)];have hq: ∀w:List UInt8,eI 39 (dbl w++([39]++r))=some (w,(dbl w).length+1):=by
  intro w
  induction w with
  |nil=>exact o9 (λd t h=>by rintro rfl;exact hr (by have h':r=39::t:=h;rw[h'];rfl))|cons c t ih=>
   by_cases hc:c=39
   ·subst hc;rw[dbl,bC rfl,eH,eH,pb,ih];simp only[gN,dz]
   ·rw[dbl,bB hc,eH,qU hc,ih];simp only[gN,dz]
 unfold gd;have e1:((dZ u++r)[0]?).getD 0=39:=rfl;have e2:(dZ u++r).drop (0+1)=dbl u++([39]++r):=by show dbl u++[39]++r=_;simp
 rw[e1,e2,hq];simp only;rw[bB bu,Vg];congr 2;omega
def U6 {w:List UInt8}(hw:w.map upB=w):dH (w++r) 0 w=true:=by unfold dH;rw[d7,xF rfl,hw];simp
def af0: ∀w∈eA,w.map upB=w:=cf
def Ek: ∀w∈eA,bL (hd (w.drop 1))=false/\hd w=46/\w≠[]/\w.drop 1≠[]:=cf
def C8 {w:List UInt8}(hw:w∈eA):rd (w++r)= .ok (fC w,w.length)/\jb false (w++r) 0=true:=by
 obtain⟨h1,h2,h3,h4⟩:=Ek w hw;obtain⟨k1,k2,k3,k4⟩:=lX (oq w hw) (U6 (r:=r) (af0 w hw));have hok:jb false (w++r) 0=true:=by
  unfold jb;rw[k3,k2];rw[mv]at hw;simp only[gt,ed,sJ,pk]at hw;rcases hw with hw|hw|hw
  ·have:ek.contains w=true:=by simpa using hw
   rw[this];rfl
  ·rw[co hw];simp
  ·rw[co hw];simp
 refine⟨?_,hok⟩;have e2:bL (hd ((w++r).drop 1))=false:=by
  have:(w++r).drop 1=w.drop 1++r:=by
   cases w with|nil=>exact absurd rfl h3|cons c t=>rfl
  rw[this,gq h4];exact h1
 rw[ahE (by rw[gq h3];exact h2) e2,hok,bC rfl,k2,k4,fZ]
def Hr: ∀w∈dl,(∃c,w=[c]/\K3 c=true)\/(∃c d,w=[c,d]/\K3 c=true/\opC c (some d) 0= .ok (⟨2,0,w⟩,2)):=by
 intro w hw;simp only[dl,ed,sJ,pk]at hw;rcases hw with rfl|rfl|rfl|rfl|rfl|rfl|rfl|rfl|rfl|rfl|rfl|rfl|rfl
 ·exact Or.inr ⟨_,_,rfl,rfl,rfl⟩
 ·exact Or.inr ⟨_,_,rfl,rfl,rfl⟩
 ·exact Or.inr ⟨_,_,rfl,rfl,rfl⟩
 all_goals exact Or.inl ⟨_,rfl,rfl⟩
end
def src (t:Tok)(x:List UInt8):Prop:=x=t.text\/(t.text=48::x/\hd x=46)
def kQ {t:Tok}{x:List UInt8}(h:bL (hd t.text)=false)(hx:src t x):x=t.text:=by
 rcases hx with h1|⟨h1,_⟩
 ·exact h1
 ·rw[h1]at h;exact absurd h (by rw[nA];decide)
def Un {a x:List UInt8}(h:iV a=true)(hx:src ⟨1,0,a⟩ x):x=a:=by
 rcases hx with h1|⟨h1,h2⟩
 ·exact h1
 ·obtain⟨_,f2,_⟩:=kJ h;simp only at h1;cases x with|nil=>cases h2|cons c t=>have h3:c=46:=h2;have:=f2 c (by rw[h1];simp);rw[h3]at this;exact absurd this cf
section
variable {W P:List UInt8}{ty p:Int}
def zB {x:List UInt8}(h:RealOK W P ty p)(hx:src ⟨1,ty,fH W P ty p⟩ x): ∃W',sC W W'/\x=W'++46::(P++dX ty p):=by
 rcases hx with h1|⟨h1,h2⟩
 ·exact⟨W,Or.inl rfl,h1⟩
 ·simp only at h1;refine⟨[],Or.inr ⟨?_,rfl⟩,?_⟩
  all_goals
   unfold fH at h1;have hW:=jp h.wl;cases hw:W with
   |nil=>exact absurd hw hW|cons c w=>
    rw[hw,eH]at h1;injection h1 with h3 h4;cases w with
    |nil=>first|(rw[h3];done)|(rw[eR]at h4;rw[<-h4];rfl)
    |cons d w=>rw[<-h4]at h2;have h5:d=46:=h2;have:=h.wd d (by rw[hw];simp);rw[h5]at this;exact absurd this cf
end
def rC {t:Tok}(h:VT t):t.text≠[]/\hd t.text≠32:=by
 cases h with
 |name h=>obtain⟨_,h2,_,_,h5⟩:=lD h;refine⟨h5,λe=> ?_⟩;simp only at e;rw[e]at h2;exact absurd h2 cf
 |int h _=>obtain⟨_,_,_,h4,h5⟩:=kJ h;refine⟨h4,λe=> ?_⟩;simp only at e;rw[e]at h5;exact absurd h5 cf
 |fG h=>
  rename_i W P ty p;have hW:=jp h.wl;refine⟨by show fH W P ty p≠[];unfold fH;simp,λe=> ?_⟩;have e':hd (W++46::(P++dX ty p))=32:=e;rw[gq hW]at e';cases W with|nil=>exact hW rfl|cons c w=>have:=h.wd c bE;rw[show c=32 from e']at this;exact absurd this cf
 |logic h=>rcases h with rfl|rfl<;>decide
 |chars h1 h2=>exact⟨by simp[dZ],by show (39:UInt8)≠32;decide⟩|word h=>rename_i a;exact(by decide: ∀w∈ek,w≠[]/\hd w≠32) a h|sign h=>rename_i a;exact(by decide: ∀w∈dl,w≠[]/\hd w≠32) a h
def abd {t:Tok}{x:List UInt8}(h:VT t)(hx:src t x):x≠[]/\hd x≠32:=by
 rcases hx with rfl|⟨_,h2⟩
 ·exact rC h
 ·refine⟨?_,by rw[h2];decide⟩;rintro rfl;exact absurd h2 cf
def Pm {t:Tok}(h:VT t)(hd0:bL (hd t.text)=true):(iV t.text=true/\ ∀b∈t.text,bL b=true)\/ ∃W P ty p,RealOK W P ty p/\t.text=W++46::(P++dX ty p):=by
 cases h with
 |name h=>exact absurd (lD h).2.1 (by rw[tO hd0];simp)|int h _=>exact Or.inl ⟨h,(kJ h).2.1⟩|fG h=>exact Or.inr ⟨_,_,_,_,h,rfl⟩|logic h=>rcases h with rfl|rfl<;>exact absurd hd0 cf
 |chars h1 h2=>exact absurd hd0 (show ¬bL 39=true by decide)|word h=>exact absurd hd0 (by rename_i a;have:=(by decide: ∀w∈ek,bL (hd w)=false) a h;simp[this])|sign h=>exact absurd hd0 (by rename_i a;have:=(by decide: ∀w∈dl,bL (hd w)=false) a h;simp[this])
def ahU {t:Tok}(h:VT t)(hd0:cM (hd t.text)=true):t.kind=0/\mO t.text=true:=by
 cases h with
 |name h=>exact⟨rfl,h⟩|int h _=>exact absurd hd0 (by rw[tO (kJ h).2.2.2.2];simp)|fG h=>
  rename_i W P ty p;have hW:=jp h.wl;have e:cM (hd (W++46::(P++dX ty p)))=true:=hd0;rw[gq hW]at e;cases W with|nil=>exact absurd rfl hW|cons c w=>exact absurd e (by rw[nA,tO (h.wd c bE)];simp)
 |logic h=>rcases h with rfl|rfl<;>exact absurd hd0 cf
 |chars h1 h2=>exact absurd hd0 (show ¬cM 39=true by decide)|word h=>exact absurd hd0 (by rename_i a;have:=(by decide: ∀w∈ek,cM (hd w)=false) a h;simp[this])|sign h=>exact absurd hd0 (by rename_i a;have:=(by decide: ∀w∈dl,cM (hd w)=false) a h;simp[this])
def ahT {t:Tok}(h:VT t)(hd0:hd t.text=46):t.text∈eA:=by
 cases h with
 |name h=>exact absurd (lD h).2.1 (by simp only at hd0;rw[hd0];decide)|int h _=>exact absurd (kJ h).2.2.2.2 (by simp only at hd0;rw[hd0];decide)|fG h=>
  rename_i W P ty p;have hW:=jp h.wl;have e:hd (W++46::(P++dX ty p))=46:=hd0;rw[gq hW]at e;cases W with|nil=>exact absurd rfl hW|cons c w=>exact absurd (h.wd c bE) (by rw[show c=46 from e];decide)
 |logic h=>exact sf (by simpa using h)|chars h1 h2=>exact absurd hd0 (by show (39:UInt8)≠46;decide)|word h=>exact o8 h|sign h=>rename_i a;exact absurd hd0 ((by decide: ∀w∈dl,hd w≠46) a h)
def adA {t:Tok}(h:VT t)(hd0:hd t.text=39): ∃u,t.text=dZ u:=by
 cases h with
 |name h=>exact absurd (lD h).2.1 (by simp only at hd0;rw[hd0];decide)|int h _=>exact absurd (kJ h).2.2.2.2 (by simp only at hd0;rw[hd0];decide)|fG h=>
  rename_i W P ty p;have hW:=jp h.wl;have e:hd (W++46::(P++dX ty p))=39:=hd0;rw[gq hW]at e;cases W with|nil=>exact absurd rfl hW|cons c w=>exact absurd (h.wd c bE) (by rw[show c=39 from e];decide)
 |logic h=>rcases h with rfl|rfl<;>exact absurd hd0 cf
 |chars h1 h2=>exact⟨_,rfl⟩|word h=>rename_i a;exact absurd hd0 ((by decide: ∀w∈ek,hd w≠39) a h)|sign h=>rename_i a;exact absurd hd0 ((by decide: ∀w∈dl,hd w≠39) a h)
def ac9 {v:List UInt8}{t:Tok}{e:Nat}(h:rd v= .ok (t,e))(hk:t.kind=0):t.text.length<=v.length:=by
 by_cases hl:cM (hd v)=true
 ·rw[OS hl]at h;split at h
  ·cases h
  ·injection h with h;injection h with h _;subst h;show ((v.takeWhile cX).map upB).length<=v.length;rw[ly];exact(xP cX).length_le
 ·exfalso;unfold rd fp at h;rw[show (v[0]?).getD 0=hd v from rfl,bB hl]at h;have num: ∀q:Except Int (Tok×Nat),(∀x,q= .ok x->x.1.kind≠0)->nv (noK q)≠ .ok (t,e):=by intro q hq e1;rw[mQ]at e1;exact hq _ e1 hk
  split at h
  ·refine num _ (λx hx=> ?_) h;unfold fa at hx;simp only at hx;split at hx
   ·split at hx
    ·rename_i t' ht;injection hx with hx;subst hx;unfold eK at ht;split at ht
     ·cases ht
     ·injection ht with ht;subst ht;show (1:Int)≠0;decide
    ·cases hx
   ·rw[(tR hx).1];decide
  ·split at h
   ·split at h
    ·injection h with h;injection h with h _;rw[<-h]at hk;unfold fC at hk;split at hk
     ·exact absurd hk (show (1:Int)≠0 by decide)
     ·exact absurd hk (show (2:Int)≠0 by decide)
    ·cases h
   ·split at h
    ·rw[lf]at h;unfold gd at h;split at h
     ·cases h
     ·split at h
      ·cases h
      ·injection h with h;injection h with h _;rw[<-h]at hk;exact absurd hk (show (1:Int)≠0 by decide)
    ·refine num _ (λx hx=> ?_) h;unfold iu at hx;simp only at hx;split at hx
     ·injection hx with hx;subst hx;show (2:Int)≠0;decide
     ·split at hx
      ·injection hx with hx;subst hx;show (2:Int)≠0;decide
      ·split at hx
       ·injection hx with hx;subst hx;show (2:Int)≠0;decide
       ·split at hx
        ·injection hx with hx;subst hx;show (2:Int)≠0;decide
        ·cases hx
def ae1 {u:List UInt8}{t t2:Tok}(h0:hd u≠32)(hl:Lex u [t,t2]): ∃e,rd u= .ok (t,e)/\e<u.length/\(t2.kind=0->t2.text.length+e<=u.length):=by
 cases hl with
 |cons h1 h2 h3 h4=>
  rename_i v e;have hb:cB u=0:=by
   cases u with|nil=>rfl|cons c r=>unfold cB;rw[bB (show c≠32 from h0)]
  rw[hb,d7]at h1;subst h1;refine⟨e,h3,?_⟩;cases h4 with
  |cons k1 k2 k3 k4=>
   rename_i w e2;have hw:w.length<=u.length-e:=by rw[<-k1,fY,fY];omega
   have hw0:w.length≠0:=λe=>k2 (iK e);refine⟨bu,λhk=> ?_⟩;have:=ac9 k3 hk;omega
def xk (t t2:Tok):Prop:=t.kind=1/\(t.type=0\/(t.type=1/\(69:UInt8) ∉ t.text))/\(t2.text=[69]\/t2.text=[68])
def aat {t2:Tok}(h2:VT t2)(hdd:bL (hd t2.text)=false)(hs: ¬(t2.text=[69]\/t2.text=[68])):
 (∀r,(cz false (t2.text++r) 0).2.2.2=false)\/ ∃c D r,t2.kind=0/\t2.text=c::(D++r)/\(c=69\/c=68)/\D≠[]/\(∀b∈D,bL b=true)/\bL (hd r)=false:=by
 by_cases hl:cM (hd t2.text)=true
 ·obtain⟨hk,hc⟩:=ahU h2 hl;obtain⟨_,_,f3,f4,f5⟩:=lD hc;obtain⟨c,q,hcq⟩: ∃c q,t2.text=c::q:=by
   cases h:t2.text with|nil=>exact absurd h f5|cons c q=>exact⟨c,q,rfl⟩
  rw[hcq]at f3 f4 hs |-;have hup:sU c=false:=by have:=(od (c::q)).1 f4;rw[qp,ot]at this;exact this.1
  by_cases hED:c=69\/c=68
  ·cases q with
   |nil=>exact absurd (by rcases hED with rfl|rfl<;>simp) hs|cons d q=>
    have hdp:=f3 d bE;by_cases hdg:bL d=true
    ·refine Or.inr ⟨c,(d::q).takeWhile bL,(d::q).dropWhile bL,hk,by rw[List.takeWhile_append_dropWhile],hED,?_,ky _,?_⟩
     ·rw[lx,hdg];simp
     ·cases hq:(d::q).dropWhile bL with|nil=>rfl|cons x y=>have:=IV bL (l:=d::q) (by rw[hq];simp);simp only[hq,List.head_cons]at this;exact this
    ·left;intro r;have n43:d≠43:=by rintro rfl;exact absurd hdp cf
     have n45:d≠45:=by rintro rfl;exact absurd hdp cf
     exact ab4 (by simpa using hdg) n43 n45
  ·left;intro r;refine yO ⟨?_,?_,?_,?_⟩<;>rw[eH,nA]
   ·exact λe=>hED (Or.inl e)
   ·rintro rfl;exact absurd hup cf
   ·exact λe=>hED (Or.inr e)
   ·rintro rfl;exact absurd hup cf
 ·left;intro r;refine yO ?_;rw[gq (rC h2).1];refine⟨?_,?_,?_,?_⟩<;>(intro e;rw[e]at hl;exact hl cf)
def u3 (t t2:Tok):Prop:= ∃k,k<=1/\(k=1-> ∃q,t2.text=48::46::q)/\ ∀x r,src t x->rd (x++(t2.text++r))= .ok (t,x.length+k)
def aa9 {t w:List UInt8}(h:kg t=some w):4<=w.length:=by
 unfold kg at h
 repeat' split at h
 all_goals first|(injection h with h;subst h;decide)|cases h
def ahw {c:UInt8}{d:Option UInt8}{e:Nat}(h:opC c d 0= .ok (⟨2,0,[c]⟩,e)):e=1:=by
 unfold opC at h;split at h
 ·rename_i w hw;injection h with h;injection h with h _;injection h with _ _ h;have:=aa9 hw;rw[h]at this;simp at this
 ·split at h
  ·injection h with h;injection h with h _;injection h with _ _ h;simp at h
  ·split at h
   ·injection h with h;injection h with _ h;omega
   ·split at h
    ·injection h with h;injection h with _ h;omega
    ·cases h
def Y4 {a:List UInt8}{t2:Tok}(h:a∈dl)(h2:VT t2){e:Nat}(he:rd (a++t2.text)= .ok (⟨2,0,a⟩,e)):u3 ⟨2,0,a⟩ t2:=by
 have hx: ∀x,src ⟨2,0,a⟩ x->x=a:=λx=>kQ ((by decide: ∀w∈dl,bL (hd w)=false) a h);refine⟨0,bu,bu,λx r hxs=> ?_⟩;rw[hx x hxs];rcases Hr a h with⟨c,rfl,hc⟩|⟨c,d,rfl,hc,ho⟩
 ·have h0:=(rC h2).1;have hg:(t2.text++r)[0]? =t2.text[0]? :=by
   cases hq:t2.text with|nil=>exact absurd hq h0|cons y z=>rfl
  rw[xy,xh hc]at he;rw[xy,xh hc,hg,he,ahw he];rfl
 ·rw[eH,xh hc];exact ho
def JH {a:List UInt8}{t t2:Tok}(h:a∈eA)(ht:t=fC a)(hx:t.text=a):u3 t t2:=by
 refine⟨0,bu,bu,λx r hxs=> ?_⟩;have:x=a:=by rw[<-hx];refine kQ ?_ hxs;rw[hx,(Ek a h).2.1];rfl
 rw[this,(C8 h).1,ht];rfl
def zp: ∀(u l t:List UInt8) (k:Nat),eI 39 (dbl u++39::39::l)=some (t,k)->u.length<t.length
 |[],l,t,k,h=>by
  rw[dbl,eR,pb]at h;cases hq:eI 39 l with|none=>rw[hq]at h;cases h|some x=>rw[hq]at h;simp only[gN,bP,dB]at h;rw[<-h.1];simp
 |c::r,l,t,k,h=>by
  by_cases hc:c=39
  ·subst hc;rw[dbl,bC rfl,eH,eH,pb]at h;cases hq:eI 39 (dbl r++39::39::l)with|none=>rw[hq]at h;cases h|some x=>rw[hq]at h;simp only[gN,bP,dB]at h;have:=zp r l x.1 x.2 hq;rw[<-h.1];simp;omega
  ·rw[dbl,bB hc,eH,qU hc]at h;cases hq:eI 39 (dbl r++39::39::l)with|none=>rw[hq]at h;cases h|some x=>rw[hq]at h;simp only[gN,bP,dB]at h;have:=zp r l x.1 x.2 hq;rw[<-h.1];simp;omega
def Vf {u v:List UInt8}(h:dZ u=dZ v):u=v:=by
 have h1:dbl u=dbl v:=by unfold dZ at h;simp only[eH,eR,q7,jW]at h;exact List.append_cancel_right h
 rw[<-Up u,h1,Up]
def Vp {u:List UInt8}{t2:Tok}(hu:u.length<=60)(h2:VT t2){e:Nat}(he:rd (dZ u++t2.text)= .ok (⟨1,6,dZ u⟩,e)):u3 ⟨1,6,dZ u⟩ t2:=by
 have h39:hd t2.text≠39:=by
  intro h39;obtain⟨u2,hu2⟩:=adA h2 h39;rw[hu2,OU (Or.inl rfl)]at he;unfold gd at he;have e1:((dZ u++dZ u2)[0]?).getD 0=39:=rfl;have e2:(dZ u++dZ u2).drop (0+1)=dbl u++39::39::(dbl u2++[39]):=by show dbl u++[39]++([39]++dbl u2++[39])=_;simp
  rw[e1,e2]at he;cases hq:eI 39 (dbl u++39::39::(dbl u2++[39]))with
  |none=>rw[hq]at he;cases he|some x=>
   rw[hq]at he;simp only at he;split at he
   ·cases he
   ·injection he with he;injection he with he _;injection he with _ _ he;have:=zp _ _ _ _ hq;rw[Vf he]at this;omega
 refine⟨0,bu,bu,λx r hx=> ?_⟩;have:x=dZ u:=kQ (t:=⟨1,6,dZ u⟩) rfl hx;rw[this,OR hu (by rw[gq (rC h2).1];exact h39)];rfl
def Y3 {a:List UInt8}{t2:Tok}(h:mO a=true)(h2:VT t2){e:Nat}(he:rd (a++t2.text)= .ok (⟨0,0,a⟩,e)):u3 ⟨0,0,a⟩ t2:=by
 obtain⟨h1,hl,h3,h4,h5⟩:=lD h;have hp:cX (hd t2.text)=false:=by
  cases hq:cX (hd t2.text)with
  |false=>rfl|true=>
   exfalso;rw[OS (by rw[gq h5];exact hl)]at he;split at he
   ·cases he
   ·injection he with he;injection he with he _;injection he with _ _ he;have hlen:=mE List.length he;rw[ly]at hlen;obtain⟨c,y,hcy⟩: ∃c y,t2.text=c::y:=by
     cases hy:t2.text with|nil=>rw[hy]at hq;exact absurd hq cf|cons c y=>exact⟨c,y,rfl⟩
    rw[hcy,nA]at hq;have hpre:a++[c] <+:(a++t2.text).takeWhile cX:=by rw[hcy];have:(a++c::y).takeWhile cX=a++(c::y).takeWhile cX:=List.takeWhile_append_of_pos h3;rw[this,lx,hq];simp
    have:=hpre.length_le;simp at this;omega
 refine⟨0,bu,bu,λx r hx=> ?_⟩;have hx':x=a:=by
  refine kQ (t:=⟨0,0,a⟩) ?_ hx;show bL (hd a)=false;cases hq:bL (hd a)with|false=>rfl|true=>rw[tO hq]at hl;cases hl
 rw[hx',Ui h (by rw[gq (rC h2).1];exact hp)];rfl
def ab6 {a:List UInt8}{t2:Tok}(h:iV a=true)(hv:valD 0 a<=2147483647)(h2:VT t2)(hs: ¬(t2.text=[69]\/t2.text=[68])){e:Nat}(he:rd (a++t2.text)= .ok (⟨1,0,a⟩,e))(hlt:e<(a++t2.text).length):u3 ⟨1,0,a⟩ t2:=by
 obtain⟨f1,f2,f3,f4,f5⟩:=kJ h;have h0:=(rC h2).1;rw[ss (Or.inl (by rw[gq f4];exact f5))]at he;have hd0:bL (hd t2.text)=false:=by
  cases hq:bL (hd t2.text)with
  |false=>rfl|true=>
   exfalso;rcases Pm h2 hq with⟨k1,k2⟩|⟨W,P,ty,p,k1,k2⟩
   ·have hall: ∀b∈a++t2.text,bL b=true:=by
     intro b hb;rcases gt.1 hb with hb|hb
     ·exact f2 b hb
     ·exact k2 b hb
    have:=B6 (W:=a++t2.text) (y:=[]) hall (by simp[f4]) rfl (λe=>absurd e cf);rw[fy,show (cz false [] 0).2.2.2=false from rfl,bB bE]at this;rw[this]at he;split at he
    ·injection he with he;injection he with _ he;omega
    ·cases he
   ·have hall: ∀b∈a++W,bL b=true:=by
     intro b hb;rcases gt.1 hb with hb|hb
     ·exact f2 b hb
     ·exact k1.wd b hb
    have := m4 (W := a ++ W) (P := P) (y := dX ty p) hall k1.pd (xi k1) (by
     cases hq:dX ty p with
     |nil=>rfl
     |cons c q=>exact W6 (ty:=ty) (p:=p) c q hq)
    rw[hZ,<-k2]at this;rw[this]at he;have:=(tR he).2.1;exact absurd this (show ¬((0:Int)=1\/(0:Int)=2)by decide)
 have hdot:hd t2.text=46-> ∀r,jb false (t2.text++r) 0=true:=λh46 r=>(C8 (ahT h2 h46)).2;have hno: ∀r,(cz false (t2.text++r) 0).2.2.2=false:=by
  rcases aat h2 hd0 hs with hn|⟨c,D,r,hk,hb,hc,hD,hdd,hr⟩
  ·exact hn
  ·exfalso;have hcc:c≠46:=by rcases hc with rfl|rfl<;>decide
   have hcd:bL c=false:=by rcases hc with rfl|rfl<;>rfl
   have hE:=uy (sg:=[]) hc (Or.inl rfl) hdd hD hr;rw[eR]at hE;have:=B6 (W:=a) (y:=t2.text) f2 f4 hd0 (by rw[hb,nA];exact λe=>absurd e hcc);rw[hb,hE]at this;rw[hb,this]at he;simp only[cQ]at he;have:=(tR he).2.1;exact absurd this (show ¬((0:Int)=1\/(0:Int)=2)by decide)
 refine⟨0,bu,bu,λx r hx=> ?_⟩;rw[Un h hx,aaU h hv (by rw[gq h0];exact hd0) (by rw[gq h0];exact λe=>hdot e r) (hno r)];rfl
section
variable {W P:List UInt8}{ty p:Int}
def oZ {a b:List UInt8}(ha: ∀x∈a,bL x=true)(hb: ∀x∈b,bL x=true): ∀x∈a++b,bL x=true:=by
 intro x hx;rcases gt.1 hx with h|h
 ·exact ha x h
 ·exact hb x h
def Uk {W y:List UInt8}(hw: ∀b∈W,bL b=true)(h0:W≠[]):bL (hd (W++y))=true:=by
 rw[gq h0];cases W with|nil=>exact absurd rfl h0|cons c t=>exact hw c bE
def aaL {P Q:List UInt8}(hP:mB P.reverse)(hQ:mB Q)(h:dx (ei (P++Q))=P):Q=[48]:=by
 have key: ∀(c:UInt8) (r:List UInt8),Q=c::r->c≠48->False:=by
  rintro c r rfl hc;have h1:P++[c] <+: ei (P++c::r):=by
   have h2:P++c::r=(P++[c])++r:=bE;rw[h2];have go: ∀(n:Nat) (r:List UInt8),r.length=n->P++[c] <+: ei (P++[c]++r):=by
    intro n
    induction n with
    |zero=>intro r hr;rw[iK hr,fy,Eh hc];exact List.prefix_refl _|succ n ih=>
     intro r hr;rcases List.eq_nil_or_concat r with h3|⟨q,x,h3⟩
     ·rw[h3]at hr;cases hr
     ·rw[List.concat_eq_append]at h3;rw[h3]at hr |-;rw[<-hZ];by_cases hx:x=48
      ·rw[hx,Hy];exact ih q (by simpa using hr)
      ·rw[Eh hx,hZ];exact List.prefix_append _ _
   exact go r.length r rfl
  have h2:=h1.length_le;have h3:ei (P++c::r)≠[]:=λe=>by rw[e]at h2;simp at h2
  unfold dx at h;rw[bB h3]at h;rw[h]at h2;simp at h2;omega
 rcases hQ with h1|⟨c,r,h1,h2⟩
 ·obtain⟨c,rfl⟩:=xN.1 h1;by_cases hc:c=48
  ·rw[hc]
  ·exact absurd (key c [] rfl hc) id
 ·exact absurd (key c r h1 h2) id
def adz {Q:List UInt8}(hd: ∀b∈Q,bL b=true)(hQ:mB Q)(h:valD 0 Q=0):Q=[48]:=by
 rcases hQ with h1|⟨c,r,h1,h2⟩
 ·obtain⟨c,rfl⟩:=xN.1 h1;have h3:=fP.1 (hd c bE);have h4:valD 0 [c]=0*10+(c.toNat-48):=by rw[gC,nc]
  rw[h]at h4;have:c=48:=sM (by show c.toNat=48;omega);rw[this]
 ·have:=Pk (c:=c) (r:=r) (by rw[<-h1];exact hd) h2;rw[<-h1]at this;omega
def Vq {t2:Tok}(h:RealOK W P 1 0)(h2:VT t2)(hs: ¬(t2.text=[69]\/t2.text=[68])){e:Nat}(he:rd (fH W P 1 0++t2.text)= .ok (⟨1,1,fH W P 1 0⟩,e))
 (hlt:e<(fH W P 1 0++t2.text).length) (hn:t2.kind=0->t2.text.length+e<=(fH W P 1 0++t2.text).length):u3 ⟨1,1,fH W P 1 0⟩ t2:=by
 have h0:=(rC h2).1;have hW0:=jp h.wl;have hT:fH W P 1 0=W++46::P:=by unfold fH dX;rw[bB cf,bB bE,fy]
 have hsplit: ∀y,fH W P 1 0++y=W++46::(P++y):=λy=>by rw[hT];simp
 have hl0:(fH W P 1 0).length=W.length+1+P.length:=by rw[hT];simp;omega
 rw[hsplit]at he hlt hn;simp only[ef,dz]at hlt hn;rw[ss (Or.inl (Uk h.wd hW0))]at he;have hsrc: ∀x,src ⟨1,1,fH W P 1 0⟩ x-> ∃W',sC W W'/\x=W'++46::P:=by intro x hx;obtain⟨W',k1,k2⟩:=zB h hx;exact⟨W',k1,by rw[k2];unfold dX;rw[bB cf,bB bE,fy]⟩
 cases hdg:bL (hd t2.text)with
 |true=>
  rcases Pm h2 hdg with⟨k1,k2⟩|⟨W2,P2,ty2,p2,k1,k2⟩
  ·exfalso;have:=m4 (W:=W) (P:=P++t2.text) (y:=[]) h.wd (oZ h.pd k2) (by simp[h0]) rfl;rw[fy]at this;rw[this]at he;have:=(tR he).2.2;simp only[show (cz false [] 0).2.2.2=false from rfl,d6,du,ef]at this;omega
  ·have hnd:bL (hd (46::(P2++dX ty2 p2)))=false:=rfl;have hex: ∀y,(cz false (46::y) 0).2.2.2=false:=λy=>yO (by rw[nA];decide);have:=m4 (W:=W) (P:=P++W2) (y:=46::(P2++dX ty2 p2)) h.wd (oZ h.pd k1.wd) (by simp[xi h]) hnd;rw[hZ,<-k2,hex]at this;rw[this]at he;unfold fG at he;split at he
   ·cases he
   ·injection he with he;injection he with he _;unfold gn jq at he;simp only[d6,and_false,du,cQ]at he;injection he with _ _ he;have hw:=(tH h (Or.inl rfl)).1;unfold iY at he;rw[hw,hT]at he;have he':dx (ei (P++W2))=P:=by
     have:W++46::dx (ei (P++W2))=W++46::P:=by rw[<-he];simp
     have:=IW this;injection this
    have hW2:=aaL h.pl k1.wl he';refine⟨1,ct 1,λ_=>⟨P2++dX ty2 p2,by rw[k2,hW2];rfl⟩,λx r hx=> ?_⟩;obtain⟨W',k3,k4⟩:=hsrc x hx;have hx':x++(t2.text++r)=W'++46::((P++[48])++(46::(P2++(dX ty2 p2++r)))):=by rw[k4,k2,hW2];simp
    rw[hx',FA h k3 (Or.inr rfl) rfl (hex _),k4];congr 2;simp;omega
 |false=>
  have hno: ∀r,(cz false (t2.text++r) 0).2.2.2=false:=by
   rcases aat h2 hdg hs with hh|⟨c,D,r,hk,hb,hc,hD,hdd,hr⟩
   ·exact hh
   ·exfalso;have hE:=uy (sg:=[]) hc (Or.inl rfl) hdd hD hr;rw[eR]at hE;have:=m4 (W:=W) (P:=P) (y:=t2.text) h.wd h.pd (xi h) hdg;rw[hb,hE]at this;rw[hb,this]at he;simp only[cQ]at he;have h3:=(tR he).2.2;have h4:=hn hk;simp only[fL]at h3;omega
  refine⟨0,bu,bu,λx r hx=> ?_⟩;obtain⟨W',k3,k4⟩:=hsrc x hx;have hx':x++(t2.text++r)=W'++46::(P++(t2.text++r)):=by rw[k4];simp
  rw[hx',FA h k3 (Or.inl rfl) (by rw[gq h0];exact hdg) (hno r),k4];congr 2;simp;omega
def aez {sg D:List UInt8}(hsg:sg=[]\/sg=[45])(hd: ∀b∈D,bL b=true)(h0:D≠[])(hl:D.length<=10):eD (sg++D)=if sg=[]then((valD 0 D:Nat):Int)else -((valD 0 D:Nat):Int):=by
 unfold eD;rcases hsg with rfl|rfl
 ·rw[eR,ja hd h0 hl,bC rfl]
 ·rw[xy,yG hd h0 hl,bB bE]
def Vr {t2:Tok}(h:RealOK W P ty p)(hp:ty=2\/p≠0)(h2:VT t2){e:Nat}(he:rd (fH W P ty p++t2.text)= .ok (⟨1,ty,fH W P ty p⟩,e))
 (hlt:e<(fH W P ty p++t2.text).length):u3 ⟨1,ty,fH W P ty p⟩ t2:=by
 have h0:=(rC h2).1;have hW0:=jp h.wl;have hsplit: ∀y,fH W P ty p++y=W++46::(P++(dX ty p++y)):=λy=>by unfold fH;simp
 rw[hsplit]at he hlt;simp only[ef,dz]at hlt;cases hdg:bL (hd t2.text)with
 |false=>
  refine⟨0,bu,bu,λx r hx=> ?_⟩;obtain⟨W',k3,k4⟩:=zB h hx;have hx':x++(t2.text++r)=W'++46::(P++(dX ty p++([]++(t2.text++r)))):=by rw[k4];simp
  rw[hx',FB h hp k3 (Or.inl rfl) (by rw[gq h0];exact hdg),k4];congr 2;simp;omega
 |true=>
  rw[ss (Or.inl (Uk h.wd hW0))]at he;obtain⟨sg,D,h1,hsg,h3,h4,h5,h6,h7⟩:=GH p;obtain⟨L,hL,hT⟩: ∃L,((L=68/\ty=2)\/(L=69/\ty=1/\p≠0))/\dX ty p=L::(sg++D):=by
   unfold dX;rcases h.ty with ht|ht
   ·have hp':p≠0:=hp.resolve_left (by rw[ht];decide);exact⟨69,Or.inr ⟨rfl,ht,hp'⟩,by rw[bB (by rw[ht];decide),bC hp',h1];rfl⟩
   ·exact⟨68,Or.inl ⟨rfl,ht⟩,by rw[bC ht,h1];rfl⟩
  have hLs:L=69\/L=68:=by rcases hL with h|h;exact Or.inr h.1;exact Or.inl h.1
  have hyd: ∀y,bL (hd (L::y))=false:=λy=>by rw[nA];rcases hLs with rfl|rfl<;>rfl
  rcases Pm h2 hdg with⟨k1,k2⟩|⟨W2,P2,ty2,p2,k1,k2⟩
  ·exfalso;have hE:=uy (r:=[]) hLs hsg (oZ h3 k2) (by simp[h4]) rfl;have:=m4 (W:=W) (P:=P) (y:=L::(sg++((D++t2.text)++[]))) h.wd h.pd (xi h) (hyd _);rw[hE]at this;have hy:dX ty p++t2.text=L::(sg++((D++t2.text)++[])):=by rw[hT];simp
   rw[hy,this]at he;simp only[cQ]at he;have h8:=(tR he).2.2;rw[hT]at hlt;simp only[ef,dz]at h8 hlt;omega
  ·have hW2:=jp k1.wl;have hE:=uy (r:=46::(P2++dX ty2 p2)) hLs hsg (oZ h3 k1.wd) (by simp[h4]) rfl;have:=m4 (W:=W) (P:=P) (y:=L::(sg++((D++W2)++46::(P2++dX ty2 p2)))) h.wd h.pd (xi h) (hyd _);rw[hE]at this;have hy:dX ty p++t2.text=L::(sg++((D++W2)++46::(P2++dX ty2 p2))):=by rw[hT,k2];simp
   rw[hy,this]at he;simp only[cQ]at he;unfold fG at he;split at he
   ·cases he
   ·rename_i hlong;injection he with he;injection he with he _;have hl3:(D++W2).length<=3:=by
     unfold pe at hlong;simp only[t7,gO,dA,rb]at hlong;have h8:=hlong.2;rcases hsg with rfl|rfl
     ·rw[eR,(mn (oZ h3 k1.wd)).1]at h8;omega
     ·rw[(mn (oZ h3 k1.wd)).2]at h8;omega
    obtain⟨v,hv⟩: ∃v,v=eD (sg++(D++W2)):=⟨_,rfl⟩;have hvv:=aez hsg (oZ h3 k1.wd) (by simp[h4]) (by omega:(D++W2).length<=10);rw[<-hv]at hvv;have hbd:=(je (D++W2) 0 (oZ h3 k1.wd)).2;have h10:10^(D++W2).length<=10^3:=sH bu hl3;have hr1: -999<=v/\v<=999:=by rw[hvv];split<;>omega
    have hval:valD 0 (D++W2)=valD 0 D*10^W2.length+valD 0 W2:=by rw[<-xx];unfold valD;rw[List.foldl_append]
    have hW10:10<=10^W2.length:=by
     have:1<=W2.length:=by cases hq:W2 with|nil=>exact absurd hq hW2|cons c r=>simp
     calc 10=10^1:=rfl
      _<=10^W2.length:=sH bu this
    have hmul:valD 0 D*10<=valD 0 D*10^W2.length:=Ja _ hW10;have hvp:v=p:=by
     unfold gn jq at he;simp only[cQ,ka]at he;rw[<-hv,zq h (Or.inl rfl) (Or.inl rfl)]at he;have hin:Lib.itoa v=Lib.itoa p->v=p:=λe=>by rw[<-Bl hr1.1 hr1.2,e,Bl h.p1 h.p2]
     rcases hL with⟨rfl,ht⟩|⟨rfl,ht,hp0⟩
     ·subst ht;rw[bC rfl]at he;injection he with _ _ he;unfold fH dX at he;rw[bC rfl]at he;apply hin;have:(W++[46]++P++[68])++Lib.itoa v=(W++[46]++P++[68])++Lib.itoa p:=by rw[he];simp
      exact IW this
     ·subst ht;rw[bB cf]at he;split at he
      ·injection he with _ _ he;unfold fH dX at he;rw[bB cf,bC hp0]at he;have:=mE List.length he;simp at this
      ·injection he with _ _ he;unfold fH dX at he;rw[bB cf,bC hp0]at he;apply hin;have:(W++[46]++P++[69])++Lib.itoa v=(W++[46]++P++[69])++Lib.itoa p:=by rw[hZ (W++[46]++P),he];simp
       exact IW this
    have hp0:p=0/\valD 0 W2=0:=by
     rcases hsg with rfl|rfl
     ·have h8:=h6 rfl;rw[bC rfl]at hvv;omega
     ·have h8:=h5 rfl;rw[bB bE]at hvv;omega
    have hz:=adz k1.wd k1.wl hp0.2;refine⟨1,ct 1,λ_=>⟨P2++dX ty2 p2,by rw[k2,hz];rfl⟩,λx r hx=> ?_⟩;obtain⟨W',k3,k4⟩:=zB h hx;have hx':x++(t2.text++r)=W'++46::(P++(dX ty p++([48]++(46::(P2++(dX ty2 p2++r)))))):=by rw[k4,k2,hz];simp
    rw[hx',FB h hp k3 (Or.inr ⟨rfl,hp0.1⟩) rfl,k4];congr 2;simp;omega
end
def ab7 {t t2:Tok}(h:VT t)(h2:VT t2)(hs: ¬xk t t2)(hl:Lex (t.text++t2.text) [t,t2]):u3 t t2:=by
 obtain⟨e,h3,h4,h5⟩:=ae1 (by rw[gq (rC h).1];exact(rC h).2) hl;cases h with
 |name k=>exact Y3 k h2 h3|int k1 k2=>exact ab6 k1 k2 h2 (λe=>hs ⟨rfl,Or.inl rfl,e⟩) h3 h4|fG k=>
  rename_i W P ty p;by_cases hp:ty=2\/p≠0
  ·exact Vr k hp h2 h3 h4
  ·have ht:ty=1:=k.ty.resolve_right (λe=>hp (Or.inl e));have hp0:p=0:=IT λe=>hp (Or.inr e);subst ht hp0;refine Vq k h2 (λe=>hs ⟨rfl,Or.inr ⟨rfl,?_⟩,e⟩) h3 h4 h5;show (69:UInt8) ∉ fH W P 1 0;unfold fH dX;rw[bB cf,bB bE,fy];intro hm;rcases gt.1 hm with hm|hm
   ·exact absurd (k.wd 69 hm) cf
   ·rcases ed.1 hm with hm|hm
    ·exact absurd hm cf
    ·exact absurd (k.pd 69 hm) cf
 |logic k=>rename_i a;refine JH (a:=a) (sf (by simpa using k)) ?_ rfl;unfold fC;rw[bC k]|chars k1 k2=>exact Vp k2 h2 h3|word k=>rename_i a;refine JH (a:=a) (o8 k) ?_ rfl;have:=rE a k;unfold fC;rw[bB (λe=>e.elim this.1 this.2)]|sign k=>exact Y4 k h2 h3
instance (t t2:Tok):Decidable (xk t t2):=by unfold xk;infer_instance
def apB (t t2:Tok):Prop:=xk t t2\/ ¬((dn false (t.text++t2.text)).e=0/\gS false (t.text++t2.text)=[t,t2])
instance (t t2:Tok):Decidable (apB t t2):=by unfold apB;infer_instance
def nC:Tok->List Tok->List UInt8
 |_,[]=>[]|t,t2::l=>(if apB t t2 then [32]else [])++(t2.text++nC t2 l)
def WX: ∀w∈dl,∀c,w=[c]->opC c none 0= .ok (⟨2,0,[c]⟩,1)/\opC c (some 32) 0= .ok (⟨2,0,[c]⟩,1):=by intro w hw c hc;subst hc;simp only[dl,ed,sJ,pk,q7,ka,reduceCtorEq,and_false,false_or]at hw;rcases hw with rfl|rfl|rfl|rfl|rfl|rfl|rfl|rfl|rfl|rfl<;>exact⟨rfl,rfl⟩
def Uj {t:Tok}{x r:List UInt8}(h:VT t)(hx:src t x)(hr:r=[]\/ ∃q,r=32::q):rd (x++r)= .ok (t,x.length):=by
 have hh:hd r=0\/hd r=32:=by
  rcases hr with rfl|⟨q,rfl⟩
  ·exact Or.inl rfl
  ·exact Or.inr rfl
 have hpar:cX (hd r)=false:=by rcases hh with h|h<;>rw[h]<;>rfl
 have hdig:bL (hd r)=false:=by rcases hh with h|h<;>rw[h]<;>rfl
 have h39:hd r≠39:=by rcases hh with h|h<;>rw[h]<;>decide
 have h46:hd r≠46:=by rcases hh with h|h<;>rw[h]<;>decide
 have hexp:(cz false r 0).2.2.2=false:=yO (by rcases hh with h|h<;>rw[h]<;>decide);cases h with
 |name k=>
  rename_i a;have:x=a:=by
   refine kQ (t:=⟨0,0,a⟩) ?_ hx;have hl:=(lD k).2.1;show bL (hd a)=false;cases hq:bL (hd a)with|false=>rfl|true=>rw[tO hq]at hl;cases hl
  rw[this];exact Ui k hpar
 |int k1 k2=>rw[Un k1 hx];exact aaU k1 k2 hdig (λe=>absurd e h46) hexp|fG k=>
  rename_i W P ty p;obtain⟨W',k3,k4⟩:=zB k hx;by_cases hp:ty=2\/p≠0
  ·have e:x++r=W'++46::(P++(dX ty p++([]++r))):=by rw[k4];simp
   rw[e,FB k hp k3 (Or.inl rfl) hdig,k4];congr 2;simp;omega
  ·have ht:ty=1:=k.ty.resolve_right (λe=>hp (Or.inl e));have hp0:p=0:=IT λe=>hp (Or.inr e);subst ht hp0;have hT:dX 1 0=[]:=by unfold dX;rw[bB cf,bB bE]
   rw[hT,fy]at k4;have e:x++r=W'++46::(P++r):=by rw[k4];simp
   rw[e,FA k k3 (Or.inl rfl) hdig hexp,k4];congr 2;simp;omega
 |logic k=>rename_i a;have:x=a:=kQ (t:=⟨1,5,a⟩) (by rcases k with rfl|rfl<;>rfl) hx;rw[this,(C8 (sf (by simpa using k))).1];unfold fC;rw[bC k]|chars k1 k2=>rename_i u;have:x=dZ u:=kQ (t:=⟨1,6,dZ u⟩) rfl hx;rw[this];exact OR k2 h39|word k=>rename_i a;have:x=a:=kQ (t:=⟨2,0,a⟩) ((by decide: ∀w∈ek,bL (hd w)=false) a k) hx;have hn:=rE a k;rw[this,(C8 (o8 k)).1];unfold fC;rw[bB (λe=>e.elim hn.1 hn.2)]|sign k=>
  rename_i a;have:x=a:=kQ (t:=⟨2,0,a⟩) ((by decide: ∀w∈dl,bL (hd w)=false) a k) hx;rw[this];rcases Hr a k with⟨c,rfl,hc⟩|⟨c,d,rfl,hc,ho⟩
  ·rw[xy,xh hc];have:=WX [c] k c rfl;rcases hr with rfl|⟨q,rfl⟩
   ·exact this.1
   ·exact this.2
  ·rw[eH,xh hc];exact ho
def ZC {u:List UInt8}{l:List Tok}(h:Lex u l):Lex (32::u) l:=by
 have hb:cB (32::u)=cB u+1:=by rw[cB,bC rfl]
 cases h with|nil h=>exact .nil (by rw[hb,tW];exact h)|cons h1 h2 h3 h4=>exact .cons (by rw[hb,tW];exact h1) h2 h3 h4
def Ff {u:List UInt8}{t:Tok}{e:Nat}{l:List Tok}(h0:u≠[])(h32:hd u≠32)(hr:rd u= .ok (t,e))(hl:Lex (u.drop e) l):Lex u (t::l):=by
 have hb:cB u=0:=by
  cases u with|nil=>rfl|cons c r=>unfold cB;rw[bB (show c≠32 from h32)]
 exact .cons (by rw[hb];rfl) h0 hr hl
def chain: ∀(l:List Tok) (t:Tok) (x:List UInt8),VT t->(∀u∈l,VT u)->src t x->Lex (x++nC t l) (t::l)
 |[],t,x,h,hl,hx=>by obtain⟨h0,h32⟩:=abd h hx;have hr:=Uj (r:=[]) h hx (Or.inl rfl);rw[fy]at hr;show Lex (x++[]) [t];rw[fy];exact Ff h0 h32 hr (.nil (by rw[List.drop_length];rfl))
 |t2::l,t,x,h,hl,hx=>by
  obtain⟨h0,h32⟩:=abd h hx;have h2:VT t2:=hl t2 bE;have hn0:x++nC t (t2::l)≠[]:=by simp[h0]
  have hn32:hd (x++nC t (t2::l))≠32:=by rw[gq h0];exact h32
  have hrest: ∀y,src t2 y->Lex (y++nC t2 l) (t2::l):=λy hy=>chain l t2 y h2 (λu hu=>hl u (fw _ hu)) hy;by_cases ha:apB t t2
  ·have e:nC t (t2::l)=32::(t2.text++nC t2 l):=by rw[nC,bC ha];rfl
   rw[e]at hn0 hn32 |-;refine Ff hn0 hn32 (Uj h hx (Or.inr ⟨_,rfl⟩)) ?_;rw[qD];exact ZC (hrest _ (Or.inl rfl))
  ·have e:nC t (t2::l)=t2.text++nC t2 l:=by rw[nC,bB ha];rfl
   rw[e]at hn0 hn32 |-;have hsp: ¬xk t t2:=λe=>ha (Or.inl e);have hsc:=IT λe=>ha (Or.inr e);have hlx:=(PQ hsc.1).2.1;rw[hsc.2]at hlx;obtain⟨k,k1,k2,k3⟩:=ab7 h h2 hsp hlx;refine Ff hn0 hn32 (k3 x _ hx) ?_;rw[<-ib,qD];rcases fu k 1 with h5|h5
   ·have:k=0:=bu;subst this;exact hrest _ (Or.inl rfl)
   ·have:k=1:=bu;subst this;obtain⟨q,hq⟩:=k2 rfl;have e2:(t2.text++nC t2 l).drop 1=(46::q)++nC t2 l:=by rw[hq];rfl
    rw[e2];exact hrest _ (Or.inr ⟨hq,rfl⟩)
def ahQ (b:UInt8):Prop:=32<=b.toNat/\b.toNat<=126
instance (b:UInt8):Decidable (ahQ b):=by unfold ahQ;infer_instance
section
variable {b:Mu}{a:CV}{bs:List UInt8}{r:Lam}
end
section
variable {μ:Mu}
def mR:Nat->List Tok->Nat×Int
 |_,[]=>(0,0)|n,t::l=>if oa t=0 then mR (n+1) l else(n,oa t)
def lQ (l:List Tok):Nat×Int:=if 300<l.length then(0,8)else mR 0 l
def Pd {l:List Tok}{i:Nat}(h:i<l.length):cT (bS l) (i:Int)=some (l[i]).cv:=by rw[eJ];unfold bS;rw[gM,dK h];rfl
def k8 {l:List Tok}:(bS l).length=l.length:=by simp[bS]
def ab2 {α:Type}(f:Int->Int->Mu->α)(g:Mu->α)(μ:Mu)(q:Nat×Int):α:=if q.2=0 then g μ else f (q.1:Int) q.2 μ
def ag3 {l:List Tok}(hl:l.length<=100000)(hs: ∀t∈l,t.text.length<=200000): ∀(k i:Nat),i+k=l.length->UU (ev E) (bS l) (i:Int) μ=some (ab2 EM EN μ (mR i (l.drop i))):=by
 intro k
 induction k with
 |zero=>intro i hi;refine cC ?_;rw[T7,k8,iG bu,bI,dS bu];rfl|succ k ih=>
  intro i hi;refine cC ?_;have hlt:i<l.length:=bu;have hd:l.drop i=l[i]::l.drop (i+1):=dY hlt;rw[T7,k8,ie hlt,bH,Pd hlt,bx,iw,show CV.agg [bF (l[i]).kind,bF (l[i]).type,CV.str (l[i]).text]=(l[i]).cv from rfl,ail (hs _ (md hlt)),<-adv];simp only[bQ];rw[dy bu,ih (i+1) bu,hd,mR];by_cases he:oa l[i]=0
  ·rw[bC he,co he];rfl
  ·rw[bB he,cl he,c8,bH];unfold ab2;rw[bB he]
def Y0: ∀(n:Nat) (l:List Tok),(mR n l).2=0->(mR n l).1=0:=by
 intro n l
 induction l generalizing n with
 |nil=>intro _;rfl|cons t l ih=>
  unfold mR;split
  ·exact ih (n+1)
  ·rename_i h;intro h2;exact absurd h2 h
def aif {l:List Tok}(hl:l.length<=100000)(hs: ∀t∈l,t.text.length<=200000):(ev E).call 59 [LV.cv (CV.sl (bS l))] μ=some (.ret (.ltup [bv ((lQ l).1:Int),bv (lQ l).2]) μ):=by
 refine bW ?_;rw[akL,k8];unfold lQ;by_cases h:300<l.length
 ·rw[bC h,co (by omega:(300:Int)<(l.length:Int))];rfl
 ·rw[bB h,cl (by omega: ¬(300:Int)<(l.length:Int)),bI];have:=ag3 (μ:=μ) hl hs l.length 0 bu;rw[d7,show ((0:Nat):Int)=0 from rfl]at this;have hG:adJ (ev E) (bS l) μ=some (yu ((mR 0 l).1:Int) (mR 0 l).2 μ):=by
   refine ck ?_;rw[afo,this,bx];unfold ab2;by_cases h0:(mR 0 l).2=0
   ·rw[bC h0,h0,Y0 0 l h0];exact Wq _ _
   ·rw[bB h0];exact Wp _ _ _ _
  rw[hG,bx,Wa]
end
def NN {α:Type}(x:PR α):Prop:=x≠none
def NN.ret {α:Type}{a:α}{r:List Tok}:NN (d9 a r):=λh=>by cases h
def NN.fail {α:Type}:NN (failP:PR α):=λh=>by cases h
def NN.bind {α β:Type}{r:List Tok}{x:PR β}{k:β->List Tok->PR α}(hs:Sh r x)(hx:NN x)(h: ∀a r',r'.length<=r.length->NN (k a r')):NN (cY x k):=by
 cases e:x with
 |none=>exact absurd e hx|some y=>
  cases y with|none=>exact λh=>by cases h|some q=>exact h q.1 q.2 (hs q.1 q.2 e)
def zE {s:List UInt8}{r r':List Tok}(hs:s≠[])(h:cI s r=some r'):r'.length+1=r.length:=by
 unfold cI at h;split at h
 ·rename_i ho;injection h with h;subst h;cases r with|nil=>exact absurd ho.symm hs|cons x r=>rfl
 ·cases h
def NN.take {α:Type}{s:List UInt8}{r:List Tok}{x:List Tok->PR α}{y:PR α}(hs:s≠[])(h: ∀r',r'.length+1=r.length->NN (x r'))(hy:NN y):NN (match cI s r with|some r'=>x r'|none=>y):=by
 cases t:cI s r with|none=>exact hy|some r'=>exact h r' (zE hs t)
def NN.take' {α:Type}{s:List UInt8}{r:List Tok}{x:List Tok->PR α}{y:PR α}(hs:s≠[])(h: ∀r',r'.length+1=r.length->NN (x r'))(hy:NN y):NN (match cI s r with|none=>y|some r'=>x r'):=by
 cases t:cI s r with|none=>exact hy|some r'=>exact h r' (zE hs t)
def NN.must {α:Type}{s:List UInt8}{r:List Tok}{k:List Tok->PR α}(hs:s≠[])(h: ∀r',NN (k r')):NN (jJ s r k):=NN.take hs (λr' _=>h r') NN.fail
structure AdAll (f:Nat):Prop where
 level: ∀n r,1<=n->n<=10->24*r.length+2*(11-n)<=f->NN (cJ f n r)
 first: ∀n r,1<=n->n<=9->24*r.length+2*(11-n)<=f+1->NN (fv f n r)
 loop: ∀n t r,1<=n->n<=9->24*r.length+1<=f->NN (gm f n t r)
 prim: ∀r,24*r.length+1<=f->NN (gR f r)
 list: ∀a r,24*r.length+23<=f->NN (gQ f a r)
 part: ∀r,24*r.length+21<=f->NN (iH f r)
 arg: ∀r,24*r.length+22<=f->NN (kn f r)
def KZ {n:Int}{r:List Tok}{m j k:Nat}(h:ew n (opR r) m j=some k):r.tail.length+1=r.length:=by
 cases r with|nil=>exact absurd rfl (lH h)|cons x r=>rfl
def adR: ∀f,AdAll f
 |0=>⟨λn r _ _ h=>by omega,λn r _ _ h=>by omega,λn t r _ _ h=>by omega,λr h=>by omega,λa r h=>by omega,λr h=>by omega,λr h=>by omega⟩|f+1=>by
  have ih:=adR f;have sh:=WV f;refine⟨λn r h1 h2 h=> ?_,λn r h1 h2 h=> ?_,λn t r h1 h2 h=> ?_,λr h=> ?_,λa r h=> ?_,λr h=> ?_,λr h=> ?_⟩
  ·rw[cJ];split
   ·exact ih.prim _ bu
   split
   ·exact NN.bind (sh.prim _) (ih.prim _ bu) λa r' hr=>NN.take bE (λr2 h2=>NN.bind (sh.level _ _) (ih.level _ _ bu bu bu) λ_ _ _=>NN.ret) NN.ret
   split
   ·exact NN.take bE (λr2 h2=>NN.bind (sh.level _ _) (ih.level _ _ bu bu bu) λ_ _ _=>NN.ret) (ih.level _ _ bu bu bu)
   split
   ·refine NN.bind (sh.level _ _) (ih.level _ _ bu bu bu) λa r' hr=> ?_;split
    ·rename_i k ho;have:=KZ ho;exact NN.bind (sh.level _ _) (ih.level _ _ bu bu bu) λ_ _ _=>NN.ret
    ·exact NN.ret
   ·exact NN.bind (sh.first _ _) (ih.first _ _ bu bu bu) λa r' hr=>ih.loop _ _ _ bu bu bu
  ·rw[fv];split
   ·exact NN.take bE (λr2 h2=>NN.bind (sh.level _ _) (ih.level _ _ bu bu bu) λ_ _ _=>NN.ret) (NN.take bE (λr2 h2=>NN.bind (sh.level _ _) (ih.level _ _ bu bu bu) λ_ _ _=>NN.ret) (ih.level _ _ bu bu bu))
   ·exact ih.level _ _ bu bu bu
  ·rw[gm];split
   ·rename_i k ho;have:=KZ ho;exact NN.bind (sh.level _ _) (ih.level _ _ bu bu bu) λ_ _ _=>ih.loop _ _ _ bu bu bu
   ·exact NN.ret
  ·rw[gR.eq_def];dsimp only;split
   ·exact NN.fail
   ·rename_i x r;have hr:(x::r).length=r.length+1:=rfl;split
    ·exact NN.ret
    split
    ·exact NN.take bE (λr2 h2=>NN.bind (sh.list _ _) (ih.list _ _ bu) λ_ _ _=>NN.ret) NN.ret
    split
    ·refine NN.bind (sh.level _ _) (ih.level _ _ bu bu bu) λa r' hr=>NN.take bE (λr2 h2=>NN.bind (sh.level _ _) (ih.level _ _ bu bu bu) λb r3 h3=> ?_) (NN.must bE λ_=>NN.ret);split
     ·exact NN.must bE λ_=>NN.ret
     ·exact NN.fail
    ·exact NN.fail
  ·rw[gQ];exact NN.bind (sh.arg _) (ih.arg _ bu) λa r' hr=>NN.take bE (λr2 h2=>ih.list _ _ bu) (NN.must bE λ_=>NN.ret)
  ·rw[iH];split
   ·exact NN.ret
   ·exact NN.bind (sh.level _ _) (ih.level _ _ bu bu bu) λ_ _ _=>NN.ret
  ·rw[kn];refine NN.bind (sh.part _) (ih.part _ bu) λa r' hr=>NN.take' bE (λr2 h2=>NN.bind (sh.part _) (ih.part _ bu) λb r3 h3=>NN.take bE (λr4 h4=>NN.bind (sh.level _ _) (ih.level _ _ bu bu bu) λ_ _ _=>NN.ret) NN.ret) ?_;split
   ·exact NN.ret
   ·exact NN.fail
def oe (l:List Tok):Option (T×List Tok):=(cJ (24*l.length+20) 1 l).getD none
def zn (l:List Tok):cJ (24*l.length+20) 1 l=some (oe l):=by
 have:=(adR (24*l.length+20)).level 1 l bu bu bu;unfold oe;cases e:cJ (24*l.length+20) 1 l with|none=>exact absurd e this|some x=>rfl
mutual
def T.len:T->Nat
 | .mk _ _ _ x=>1+lnA x
def lnA:List (Option T)->Nat
 |[]=>0|none::r=>1+lnA r|some t::r=>t.len+lnA r
end
def lnO:Option T->Nat
 |none=>0|some t=>t.len
def lnS (l:List T):Nat:=lnA (l.map some)
def mi: ∀a b:List (Option T),lnA (a++b)=lnA a+lnA b
 |[],b=>by simp[lnA]|none::r,b=>by simp[lnA,mi r b];omega|some t::r,b=>by simp[lnA,mi r b];omega
def CA {k:Int}{t:T}:(un k t).len=1+t.len:=by simp[un,T.len,lnA]
def wN {k:Int}{t u:T}:(bin k t u).len=1+t.len+u.len:=by simp[bin,T.len,lnA];omega
def Ln {α:Type}(c:Nat)(m:α->Nat)(x:PR α):Prop:= ∀a r',x=some (some (a,r'))->m a+4*r'.length<=c
def Ln.ret {α:Type}{c:Nat}{m:α->Nat}{a:α}{r:List Tok}(h:m a+4*r.length<=c):Ln c m (d9 a r):=λb s e=>by injection e with e;injection e with e;injection e with e1 e2;subst e1 e2;exact h
def Ln.fail {α:Type}{c:Nat}{m:α->Nat}:Ln c m (failP:PR α):=λa b e=>by cases e
def Ln.bind {α β:Type}{c d:Nat}{m:α->Nat}{m':β->Nat}{x:PR β}{k:β->List Tok->PR α}(hx:Ln d m' x)(h: ∀a r',m' a+4*r'.length<=d->Ln c m (k a r')):Ln c m (cY x k):=λt s e=>by
 rcases fU e with⟨_,h2⟩|⟨a,r1,h1,h2⟩
 ·cases h2
 ·exact h a r1 (hx _ _ h1) t s h2
def Ln.take {α:Type}{c:Nat}{m:α->Nat}{s:List UInt8}{r:List Tok}{x:List Tok->PR α}{y:PR α}(hs:s≠[])(h: ∀r',r'.length+1=r.length->Ln c m (x r'))(hy:Ln c m y):Ln c m (match cI s r with|some r'=>x r'|none=>y):=by
 cases t:cI s r with|none=>exact hy|some r'=>exact h r' (zE hs t)
def Ln.take' {α:Type}{c:Nat}{m:α->Nat}{s:List UInt8}{r:List Tok}{x:List Tok->PR α}{y:PR α}(hs:s≠[])(h: ∀r',r'.length+1=r.length->Ln c m (x r'))(hy:Ln c m y):Ln c m (match cI s r with|none=>y|some r'=>x r'):=by
 cases t:cI s r with|none=>exact hy|some r'=>exact h r' (zE hs t)
def Ln.must {α:Type}{c:Nat}{m:α->Nat}{s:List UInt8}{r:List Tok}{k:List Tok->PR α}(hs:s≠[])(h: ∀r',r'.length+1=r.length->Ln c m (k r')):Ln c m (jJ s r k):=Ln.take hs h Ln.fail
structure LnAll (f:Nat):Prop where
 level: ∀n r,Ln (4*r.length) T.len (cJ f n r)
 first: ∀n r,Ln (4*r.length) T.len (fv f n r)
 loop: ∀n t r,Ln (t.len+4*r.length) T.len (gm f n t r)
 prim: ∀r,Ln (4*r.length) T.len (gR f r)
 list: ∀a r,Ln (lnS a+4*r.length) lnS (gQ f a r)
 part: ∀r,Ln (4*r.length) lnO (iH f r)
 arg: ∀r,Ln (4*r.length) T.len (kn f r)
def oB: ∀f,LnAll f
 |0=>⟨λn r a b e=>by simp[cJ]at e,λn r a b e=>by simp[fv]at e,λn t r a b e=>by simp[gm]at e,λr a b e=>by simp[gR]at e,λl r a b e=>by simp[gQ]at e,λr a b e=>by simp[iH]at e,λr a b e=>by simp[kn]at e⟩|f+1=>by
  have ih:=oB f;refine⟨λn r=> ?_,λn r=> ?_,λn t r=> ?_,λr=> ?_,λa r=> ?_,λr=> ?_,λr=> ?_⟩
  ·rw[cJ];split
   ·exact ih.prim _
   split
   ·exact Ln.bind (ih.prim _) λa r' h=>Ln.take bE (λr2 h2=>Ln.bind (ih.level _ _) λ_ _ h3=>Ln.ret (by rw[wN];omega)) (Ln.ret h)
   split
   ·exact Ln.take bE (λr2 h2=>Ln.bind (ih.level _ _) λ_ _ h3=>Ln.ret (by rw[CA];omega)) (ih.level _ _)
   split
   ·refine Ln.bind (ih.level _ _) λa r' h=> ?_;split
    ·rename_i k ho;have:=KZ ho;exact Ln.bind (ih.level _ _) λ_ _ h3=>Ln.ret (by rw[wN];omega)
    ·exact Ln.ret h
   ·exact Ln.bind (ih.first _ _) λa r' h=>λt s e=>by have:=ih.loop _ _ _ t s e;omega
  ·rw[fv];split
   ·exact Ln.take bE (λr2 h2=>Ln.bind (ih.level _ _) λ_ _ h3=>Ln.ret (by rw[CA];omega)) (Ln.take bE (λr2 h2=>Ln.bind (ih.level _ _) λ_ _ h3=>Ln.ret (by rw[CA];omega)) (ih.level _ _))
   ·exact ih.level _ _
  ·rw[gm];split
   ·rename_i k ho;have:=KZ ho;exact Ln.bind (ih.level _ _) λu r' h3=>λt' s e=>by have:=ih.loop _ _ _ t' s e;rw[wN]at this;omega
   ·exact Ln.ret (ct _)
  ·rw[gR.eq_def];dsimp only;split
   ·exact Ln.fail
   ·rename_i x r;have hr:(x::r).length=r.length+1:=rfl;split
    ·exact Ln.ret (by simp only[T.len,lnA];omega)
    split
    ·exact Ln.take bE (λr2 h2 => Ln.bind (ih.list _ _) λa r3 h3 => Ln.ret (by
      have e:lnS ([]:List T)=0:=by simp[lnS,lnA]
      unfold lnS at h3 e;rw[e]at h3;simp only[T.len]
      omega)) (Ln.ret (by simp only[T.len,lnA];omega))
    split
    ·refine Ln.bind (ih.level _ _) λa r' h=>Ln.take bE (λr2 h2=>Ln.bind (ih.level _ _) λb r3 h3=> ?_) (Ln.must bE λ_ h4=>Ln.ret (by rw[CA];omega));split
     ·exact Ln.must bE λ_ h4=>Ln.ret (by rw[wN];omega)
     ·exact Ln.fail
    ·exact Ln.fail
  ·rw[gQ];have e: ∀t:T,lnS (a++[t])=lnS a+t.len:=λt=>by simp[lnS,mi,lnA]
   exact Ln.bind (ih.arg _) λt r' h=>Ln.take bE (λr2 h2=>λt' s h3=>by have:=ih.list _ _ t' s h3;rw[e]at this;omega) (Ln.must bE λ_ h4=>Ln.ret (by rw[e];omega))
  ·rw[iH];split
   ·exact Ln.ret (by simp only[lnO];omega)
   ·exact Ln.bind (ih.level _ _) λ_ _ h=>Ln.ret h
  ·rw[kn];have e1: ∀a:Option T,lnA [a]<=1+lnO a:=λa=>by cases a<;>simp[lnA,lnO]
   have e3: ∀(a b c:Option T) (x:Nat),lnO a+lnO b+lnO c+4<=x->(T.mk 3 0 [] [a,b,c]).len<=x:=λa b c x h=>by have e:[a,b,c]=[a]++([b]++[c]):=rfl;rw[T.len,e,mi,mi];have:=e1 a;have:=e1 b;have:=e1 c;omega
   refine Ln.bind (ih.part _) λa r' h=>Ln.take' bE (λr2 h2=>Ln.bind (ih.part _) λb r3 h3=>Ln.take bE (λr4 h4=>Ln.bind (ih.level _ _) λc r5 h5=>Ln.ret ?_) (Ln.ret ?_)) ?_
   ·have:=e3 a b (some c) (4*r.length-4*r5.length) (by have:lnO (some c)=c.len:=rfl;omega);omega
   ·have:=e3 a b none (4*r.length-4*r3.length) (by have:lnO none=0:=rfl;omega);omega
   split
   ·exact Ln.ret h
   ·exact Ln.fail
def Cd {l:List Tok}{t:T}{r:List Tok}(h:oe l=some (t,r)):t.len+4*r.length<=4*l.length:=(oB _).level _ _ t r (by rw[zn,h])
mutual
def T.size_len: ∀t:T,t.size<=t.len
 | .mk _ _ _ x=>by have:=sy x;rw[T.size,T.len];omega
def sy: ∀x:List (Option T),sizeA x<=lnA x
 |[]=>by rw[sizeA,lnA];exact ct _|none::r=>by have:=sy r;rw[sizeA,gT,lnA];omega|some t::r=>by have:=sy r;have:=T.size_len t;rw[sizeA,gT,lnA];omega
end
mutual
def nR:T->Bool
 | .mk _ _ _ x=>decide (7<x.length)||oF x
def oF:List (Option T)->Bool
 |[]=>false|none::r=>oF r|some t::r=>nR t||oF r
end
section
variable {μ:Mu}
def m8 {d r:List (Option T)}{x:Option T}:cT (cr (d++x::r)) (d.length:Int)=some (i8 x):=by rw[tj,jy bu,t8];rfl
def qW {d r:List (Option T)}{x:Option T}:decide ((d.length:Int)<((d++x::r).length:Int))=true:=b7
def IP {d:List (Option T)}:decide ((d.length:Int)<((d++[]).length:Int))=false:=bE
def qz {α:Type}{d r:List α}{x:α}:d++x::r=(d++[x])++r:=bE
def ir {α:Type}{d:List α}{x:α}:(d++[x]).length=d.length+1:=bE
def ajJ {a b:Nat}(h:a+b<=1000000000):IntKind.wrap .i64 ((a:Int)+(b:Int))=((a+b:Nat):Int):=by rw[el bu bu];omega
mutual
def ad4: ∀t:T,t.len<=1000000->(ev E).call 96 [LV.cv t.cv] μ=some (.ret (bv (t.size:Int)) μ)
 | .mk k y s x,h=>by refine bW ?_;rw[T.len]at h;have e:=Nk x [] 1 bu b7;rw[rc,ak2,il];simp only[eR,fL]at e;have e0:((0:Nat):Int)=0:=rfl;have e1:((1:Nat):Int)=1:=rfl;rw[e0,e1]at e;rw[e,bx,Wy,T.size]
def Nk: ∀(r d:List (Option T)) (n:Nat),n+lnA r<=1000000->d.length+lnA r<=1000000->KN (ev E) (n:Int) (cr (d++r)) ((d++r).length:Int) (d.length:Int) μ=some (EU ((n+sizeA r:Nat):Int) μ)
 |[],d,n,h,h2=>cC (by rw[IA,IP,bI,sizeA];rfl)|none::r,d,n,h,h2=>by rw[lnA]at h h2;refine cC ?_;rw[IA,qW,bH,m8,bx,lI,cK,Fu,bx,cS,bI,dy bu,qz,<-ir (x:=(none:Option T)),Nk r _ n bu (by rw[ir];omega),sizeA,gT,fZ]|some t::r,d,n,h,h2=>by
  rw[lnA]at h h2;have:=T.size_len t;have hl: ∀t:T,1<=t.len:=λt=>by cases t;rw[T.len];omega
  have:=hl t;refine cC ?_;rw[IA,qW,bH,m8,bx,lI,cK,gk,Ft,bx,c8,bH,ad4 t bu,bV,eo,bx,dy bu,ajJ bu,qz,<-ir (x:=some t),Nk r _ (n+t.size) bu (by rw[ir];omega),sizeA,gT,IS]
end
def T.len_pos (t:T):1<=t.len:=by cases t;rw[T.len];omega
def B5 (a b:List Nd):cO (a++b)=cO a++cO b:=by simp[cO]
def uE (a b:List Int):dQ (a++b)=dQ a++dQ b:=by simp[dQ]
def jP (a:List Nd):(cO a).length=a.length:=by simp[cO]
def oH: ∀l:List Nd,gj 4 (cO l)=true
 |[]=>rfl|x::r=>by have e:cO (x::r)=x.cv::cO r:=rfl;rw[e];simp only[gj];rw[show fJ 4 x.cv=true from rfl];exact oH r
def C6: ∀l:List Int,gj 1 (dQ l)=true
 |[]=>rfl|x::r=>by have e:dQ (x::r)=bF x::dQ r:=rfl;rw[e];simp only[gj];rw[show fJ 1 (bF x)=true from rfl];exact C6 r
def mh (l:List Int):(dQ l).length=l.length:=by simp[dQ]
def wK {zs:List Int}{x:Int}(h:zs.length+1<=1000000):eq 1 (dQ zs) [bF x]=true:=mf (xs:=dQ zs) (ys:=[bF x]) (by rw[mh];exact h) (C6 _) (C6 [x])
mutual
def abg: ∀(t:T) (out:List Nd),t.len+out.length<=1000000->bJ E (ev E) 73 [LV.cv t.cv,LV.osl (cO out)] μ=some (.ret (LV.osl (cO (out++t.flat out.length))) μ)
 | .mk k y s x,out,h=>by rw[T.len]at h;have e:=Nj x [] out [] k y s bu b7 b7;have hl:=rW out.length x;have:=sy x;have e0:((0:Nat):Int)=0:=rfl;have e1:dQ []=[]:=rfl;simp only[eR,fL,e0,e1]at e;rw[rc,ahm,il,e,bx,Wu];have hn:[CV.agg [bF k,bF y,CV.str s,CV.sl (dQ (dO out.length x))]]=cO [⟨k,y,s,dO out.length x⟩]:=rfl;rw[hn,mf (by rw[jP,jP];simp;omega) (oH _) (oH _),cK,<-B5,T.flat,hZ]
def Nj: ∀(r d:List (Option T)) (out:List Nd) (zs:List Int) (k y:Int) (s:List UInt8),out.length+lnA r<=1000000->d.length+lnA r<=1000000->zs.length+lnA r<=1000000->
 KL (ev E) (cO out) (cr (d++r)) ((d++r).length:Int) (d.length:Int) k y s (dQ zs) μ=some (EQ (cO (out++fe out.length r)) k y s (dQ (zs++dO out.length r)) μ)
 |[],d,out,zs,k,y,s,h,h2,h3=>cC (by rw[Iz,IP,bI,fe,dO,fy,fy])|none::r,d,out,zs,k,y,s,h,h2,h3=>by
  rw[lnA]at h h2 h3;refine cC ?_;have e:dQ zs++[bF (-1)]=dQ (zs++[-1]):=by rw[uE];rfl
  rw[Iz,qW,bH,m8,bx,lI,cK,Fu,bx,bH,wK bu,cK,dy bu,e,qz,<-ir (x:=(none:Option T)),Nj r _ out _ k y s bu (by rw[ir];omega) (by rw[ir];omega),fe,kG,gT,dO,hZ];rfl
 |some t::r,d,out,zs,k,y,s,h,h2,h3=>by
  rw[lnA]at h h2 h3;have:=T.size_len t;have:=T.len_pos t;have hs:=T.flat_len out.length t;refine cC ?_;have hw:IntKind.wrap .i64 (((out++t.flat out.length).length:Int) -1)=((out.length+t.size:Nat):Int) -1:=by rw[ef,hs];exact el bu bu
  have hG: ∀x7 x8:Int,adL (ev E) (cO out) t.cv (cr (d++some t::r)) x7 x8 k y s (dQ zs) μ=some (ED (cO (out++t.flat out.length)) (cr (d++some t::r)) x7 x8 k y s (dQ (zs++[((out.length+t.size:Nat):Int) -1])) μ):=λx7 x8=>by refine ck ?_;rw[afr,bW (abg t out bu),bV,MW,bx,jP,hw,wK bu,cK,uE];rfl
  rw[Iz,qW,bH,m8,bx,lI,cK,gk,Ft,bx,bI,hG,bx,Wc,dy bu,qz,<-ir (x:=some t),Nj r _ _ _ k y s (by rw[ef,hs];omega) (by rw[ir];omega) (by rw[ir];omega)];rw[fe,kG,gT,dO,hZ,ef,hs,hZ];rfl
end
def aju {ρ:Rho}{k y:Int}{s:List UInt8}{x:List CV}:bJ E ρ 73 [LV.cv (CV.view [bF k,bF y,CV.str s,CV.sl x]),LV.cv (CV.v (.slice none 0 0))] μ=bJ E ρ 73 [LV.cv (CV.view [bF k,bF y,CV.str s,CV.sl x]),LV.osl []] μ:=by rw[ahm];kernel_rfl
def ajw {ρ:Rho}:bJ E ρ 98 [LV.cv (CV.v (.pointer none))] μ=some (.ret (LV.bool false) μ):=bw
mutual
def adX: ∀t:T,t.len<=1000000->(ev E).call 58 [LV.cv t.cv] μ=some (.ret (LV.bool (nR t)) μ)
 | .mk k y s x,h=>by
  refine bW ?_;rw[T.len]at h;obtain⟨j,hj,e⟩:=Ix x [] b7;have e0:((0:Nat):Int)=0:=rfl;simp only[eR,fL,e0]at e;rw[rc,akK,il,nR];by_cases hx:7<x.length
  ·rw[co bu,co hx];rfl
  ·have h140:(ev E).call 140 [LV.cv (CV.sl (cr x)),LV.cv (CV.clo 98 [])] μ=some (.ret (bv j) μ):=bW (by rw[aiN,il,e]);have h97:(ev E).call 97 [LV.cv (CV.sl (cr x)),LV.cv (CV.clo 98 [])] μ=some (.ret (LV.bool (decide (0<=j))) μ):=bW (by rw[ak3,h140];rfl);rw[cl bu,cl hx,bI,h97,hj];rfl
def Ix: ∀(r d:List (Option T)),d.length+lnA r<=1000000-> ∃j:Int,decide (0<=j)=oF r/\
 opt (uf (ev E) (cr (d++r)) 98 ((d++r).length:Int) (d.length:Int) μ) (kB (ev E) 140 HU [.block 0,.seq (cN 140 7)])=some (.ret (bv j) μ)
 | [], d, h => ⟨-1, by rw [oF]; rfl, by
  have:uf (ev E) (cr (d++[])) 98 ((d++[]).length:Int) (d.length:Int) μ=some (A1 μ):=cC (by rw[zh,IP,bI])
  rw[this,bx,Ra]⟩
 |none::r,d,h=>by
  rw[lnA]at h;obtain⟨j,hj,e⟩:=Ix r (d++[none]) (by rw[ir];omega);refine⟨j,by rw[hj,oF],?_⟩;have h98:(ev E).call 98 [LV.cv (i8 none)] μ=some (.ret (LV.bool false) μ):=bW (by rw[kE,ajw]);obtain⟨s,h1,h2⟩:=cF e;have:uf (ev E) (cr (d++none::r)) 98 ((d++none::r).length:Int) (d.length:Int) μ=some s:=by refine cC ?_;rw[zh,qW,bH,m8,bx,lI,cK,h98,bV,bX,bx,bI,dy bu,qz,<-ir (x:=(none:Option T)),h1]
  rw[this,bx,h2]
 |some t::r,d,h=>by
  rw[lnA]at h;have:=T.len_pos t
  have h98 : (ev E).call 98 [LV.cv (i8 (some t))] μ = some (.ret (LV.bool (nR t)) μ) := bW (by
   have:=adX t bu;rw[gk];rw[sQ]at this |-;rw[ak4,this]
   rfl)
  cases hw:nR t with
  |true=>
   refine⟨d.length,by rw[oF,hw];simp,?_⟩;have:uf (ev E) (cr (d++some t::r)) 98 ((d++some t::r).length:Int) (d.length:Int) μ=some (A0 (d.length:Int) μ):=by refine cC ?_;rw[zh,qW,bH,m8,bx,lI,cK,h98,bV,bX,bx,hw,bH]
   rw[this,bx,Q9]
  |false=>
   obtain⟨j,hj,e⟩:=Ix r (d++[some t]) (by rw[ir];omega);refine⟨j,by rw[hj,oF,hw];rfl,?_⟩;obtain⟨s,h1,h2⟩:=cF e;have:uf (ev E) (cr (d++some t::r)) 98 ((d++some t::r).length:Int) (d.length:Int) μ=some s:=by refine cC ?_;rw[zh,qW,bH,m8,bx,lI,cK,h98,bV,bX,bx,hw,bI,dy bu,qz,<-ir (x:=some t),h1]
   rw[this,bx,h2]
end
def aie {t:T}(h:t.len<=1000000):(ev E).call 57 [LV.cv t.cv] μ=some (.ret (if 120<t.size then LV.ltup [LV.cv (CV.v (.slice none 0 0)),bv 8]else LV.ltup [LV.cv (CV.sl (cO (t.flat 0))),bv 0]) μ):=by
 refine bW ?_;have h1:=ad4 (μ:=μ) t h
 have h3 : (ev E).call 73 [LV.cv t.cv, LV.cv (CV.v (.slice none 0 0))] μ = some (.ret (LV.osl (cO (t.flat 0))) μ) := bW (by
  have h2:=abg (μ:=μ) t [] (by simpa using h);rw[sQ]at h2 |-;rw[aju]
  exact h2)
 rw[sQ]at h1 h3 |-;rw[akJ,h1,bV,eo,bx,h3];by_cases hx:120<t.size
 ·rw[co bu,bC hx];rfl
 ·rw[cl bu,bB hx];rfl
def aid {lv i:Nat}{l:List Tok}(h:Rdr μ lv i l 0):cm μ lv i l (oe l) (λt μ=> .ret (.ltup [LV.cv t.cv,bv 0]) μ) (λμ=> .ret (.ltup [LV.cv (CV.v (.pointer none)),bv 7]) μ) ((ev E).call 56 [LV.cv (CV.ref lv i 0)] μ):=by
 have hw:=uX (Cb (24*l.length+20)) h (oe l) (by rw[d7];exact zn l);have h2:cm μ lv i l (oe l) (λt μ=> .ret (.ltup [LV.cv t.cv,bv 0]) μ) (λμ=> .ret (.ltup [LV.cv (CV.v (.pointer none)),bv 7]) μ) (bJ E (ev E) 56 [LV.cv (CV.ref lv i 0)] μ):=by
  rw[akI,oV];refine cm.opt hw (λt μ'=> ?_) (λμ'=> ?_)
  ·have hd:(ev E).dcall 94 none [LV.cv (CV.ref μ'.length 0 0),LV.cv (CV.ref μ'.length 1 0)] (μ'++[[Ob.cells [LV.cv t.cv],Ob.cells [bv 0]]])=some (μ'++[[Ob.cells [LV.cv t.cv],Ob.cells [bv 0]]]):=ux (by rw[aho]);have r1: ∀c:CV,cw E.P 91 (.cells [LV.cv c]) 0=some (LV.cv c):=λc=>by kernel_rfl
   unfold ff;rw[bV,gF,bx,hJ,cK,hd,bx,ey,bx];show opt (opt (cw E.P 91 (.cells [LV.cv t.cv]) 0) _) _=_;rw[r1,bx];have hb:below μ'.length t.cv=true:=CS t;have hf:nw (eW [LV.cv t.cv,bv 0])=true:=by rw[sQ];rfl
   have hr:fj μ'.length (eW [LV.cv t.cv,bv 0])=true:=by show (below μ'.length t.cv&&_)=true;rw[hb];rfl
   show bD (nw (eW [LV.cv t.cv,bv 0])) (bD (fj μ'.length (eW [LV.cv t.cv,bv 0])) _)=_;rw[hf,hr];rfl
  ·have hd:(ev E).dcall 94 (some gh) [LV.cv (CV.ref μ'.length 0 0),LV.cv (CV.ref μ'.length 1 0)] (μ'++[[Ob.cells [LV.cv (CV.v (.pointer none))],Ob.cells [bv 0]]])=some (μ'++[[Ob.cells [LV.cv (CV.v (.pointer none))],Ob.cells [bv 7]]]):=by
    refine ux ?_;unfold gh;have w1: ∀a:LV,dv E.P 91 (.cells [a]) 0 (LV.cv (CV.v (.pointer none)))=some (.cells [LV.cv (CV.v (.pointer none))]):=λa=>by kernel_rfl
    have w2: ∀a:LV,dv E.P 25 (.cells [a]) 0 (bv 7)=some (.cells [bv 7]):=λa=>by kernel_rfl
    rw[ahp,mr rfl];show opt (dv E.P 91 (.cells [LV.cv (CV.v (.pointer none))]) 0 _) _=_;rw[w1,bx,m9 rfl,mr rfl];show opt (dv E.P 25 (.cells [bv 0]) 0 _) _=_;rw[w2,bx,m9 rfl];rfl
   unfold iR;rw[eu,hd,bx,ey,bx];rfl
 exact h2.imp λr hr=>bW hr
def iz (l:List Tok):List Nd×Int×Int:=
 if(lQ l).2≠0 then([],0,(lQ l).2)else
 if l=[]then([],0,17)else
 match oe l with
 |none=>([],0,7)|some (t,r)=>if 120<t.size\/nR t=true then([],0,8)else(t.flat 0,((l.length-r.length:Nat):Int),0)
def yH {m:Nat}: ∀l:List Int,dp m (dQ l)=true
 |[]=>rfl|x::r=>by have e:dQ (x::r)=bF x::dQ r:=rfl;rw[e];simp only[dp,below,yH r]
def DE {m:Nat}: ∀l:List Nd,dp m (cO l)=true
 |[]=>rfl|x::r=>by have e:cO (x::r)=CV.agg [bF x.kind,bF x.typ,CV.str x.text,CV.sl (dQ x.args)]::cO r:=rfl;rw[e];simp only[dp,below,yH,DE r]
def Km {l:List Tok}(hl:l.length<=100000)(hs: ∀t∈l,t.text.length<=200000): ∀(k i:Nat),i+k=l.length->
 UT (ev E) (bS l) (bS l) (l.length:Int) (i:Int) μ=some (if(mR i (l.drop i)).2=0 then yA (bS l) μ else yz [] 0 (mR i (l.drop i)).2 μ)
 | 0, i, h => cC (by
  rw[T4,cl bu,bI,dS bu,mR,bC rfl])
 |k+1,i,h=>by
  have hi:i<l.length:=bu;refine cC ?_;have h55:=aic (μ:=μ) (t:=l[i]) (hs _ (md hi));have e: ∀t:Tok,CV.agg [bF t.kind,bF t.type,CV.str t.text]=t.cv:=λ_=>rfl;rw[T4,co bu,bH,Pd hi,bx,m7,e,h55,bV,eo,bx,dY hi,mR];by_cases hc:oa l[i]=0
  ·rw[co hc,bC hc,cS,bI,dy bu];exact Km hl hs k (i+1) bu
  ·rw[cl hc,bB hc,c8,bH,bB hc]
def ads {e:List Nd}{n c:Int}{o:List CV}{m:Int}:kB (ev E) 18 H18 [] (Ew (cO e) n c o m μ)=some (.ret (.ltup [LV.cv (CV.sl (cO e)),bv n,bv c]) μ):=by
 rw[VV];have:fj (List.length μ) (LV.ltup [LV.cv (CV.sl (cO e)),bv n,bv c])=true:=by show (dp _ (cO e)&&_)=true;rw[DE];rfl
 rw[this,cK]
def ah6 {l:List Tok}(hl:l.length<=100000)(hs: ∀t∈l,t.text.length<=200000): ∃v,cj v=some (cO (iz l).1)/\(ev E).call 18 [LV.cv (CV.sl (bS l))] μ=some (.ret (.ltup [v,bv (iz l).2.1,bv (iz l).2.2]) μ):=by
 by_cases h3:300<l.length
 ·have e:iz l=([],0,8):=by unfold iz lQ;rw[bC h3];rfl
  rw[e];refine⟨LV.cv (CV.v (.slice none 0 0)),rfl,bW ?_⟩;rw[ahk,k8,co bu,bH]
 refine⟨LV.cv (CV.sl (cO (iz l).1)),rfl,bW ?_⟩;rw[ahk,k8,cl bu,bI];have hL:=Km (μ:=μ) hl hs l.length 0 bu;have hE:lQ l=mR 0 l:=by unfold lQ;rw[bB h3]
 rw[d7,<-hE]at hL;have e0:((0:Nat):Int)=0:=rfl;rw[e0]at hL;have hG: ∀st,(∀s',(if(lQ l).2=0 then yA (bS l) μ else yz [] 0 (lQ l).2 μ)=s'->kS (ev E) H18 [.block 0,.seq (cN 18 15)] [(2,2),(3,0),(4,0)] s'=some st)->FK (ev E) (bS l) μ=some st:=λst h=>ck (by rw[afi,k8,hL,bx];exact h _ rfl);unfold iz;by_cases hc:(lQ l).2=0
 ·rw[bB (by simpa using hc)];by_cases hn:l=[]
  ·rw[bC hn]
   rw [hG (uj [] 0 17 μ) (λs' h => by
    rw[<-h,bC hc,G8,k8,co (by rw[hn];rfl),bH]),bx,G5]
   rfl
  ·rw[bB hn];have hpos:0<l.length:=Di.2 hn;have hR:Rdr (μ++[[rO l 0]]) μ.length 0 l 0:=⟨db,ox _,hl,bE⟩;have hA:=aid hR;have hrs: ∀n,rS (μ++[[rO l 0]]) μ.length 0 l n=μ++[[rO l n]]:=λn=>m0;have ho: ∀n:Nat,rO l n=Ob.cells [LV.cv (CV.sl (bS l)),bv (n:Int)]:=λ_=>rfl
   have h12 : ∀ st, Lf (ev E) (bS l) μ = some st -> ∀ st', kS (ev E) H18 [] [(2, 2), (3, 0), (4, 0)] st = some st' -> FK (ev E) (bS l) μ = some st' := λst hst st' h => hG st' (λs' h' => by
    rw[<-h',bC hc,G8,k8,cl bu,bI,hst,bx,h])
   have fin: ∀(e:List Nd) (n c:Int) (o:List CV) (m:Int),Lf (ev E) (bS l) μ=some (Ax (cO e) n c o m μ)->opt (FK (ev E) (bS l) μ) (kB (ev E) 18 H18 [])=some (.ret (.ltup [LV.cv (CV.sl (cO e)),bv n,bv c]) μ):=λe n c o m h=>by rw[h12 _ h _ (Qu _ _ _ _ _ _ _),bx,ads]
   have hB:μ++[[Ob.cells [LV.cv (CV.sl (bS l)),bv 0]]]=μ++[[rO l 0]]:=rfl;unfold cm at hA;cases hp:oe l with
   |none=>rw[hp]at hA;obtain⟨n,hx⟩:=hA;refine fin [] 0 7 (bS l) (n:Int) (ck ?_);have h14:FI (ev E) (CV.v (.pointer none)) 7 [rO l n] μ=some (rI [] 0 7 (bS l) (n:Int) μ):=ck (by rw[ho,Nv];rfl);rw[Nu,hB,hx,hrs];simp only[bQ,ey];show opt (FI (ev E) (CV.v (.pointer none)) 7 [rO l n] μ) _=_;rw[h14,bx,DP];rfl
   |some q=>
    obtain⟨t,r⟩:=q;rw[hp]at hA;obtain⟨n,hr,hn2,hx⟩:=hA;dsimp only at hr hx;have hlen:=Cd hp;have hnn:l.length-r.length=n:=by rw[hr,fY];omega
    dsimp only;rw[hnn];have out: ∀(e:List Nd) (m c:Int),Lg (ev E) t.cv [rO l n] μ=some (vh (cO e) m c (bS l) (n:Int) μ)->opt (FK (ev E) (bS l) μ) (kB (ev E) 18 H18 [])=some (.ret (.ltup [LV.cv (CV.sl (cO e)),bv m,bv c]) μ):=λe m c h=>by
     refine fin e m c (bS l) (n:Int) (ck ?_)
     have h14 : FI (ev E) t.cv 0 [rO l n] μ = some (rI (cO e) m c (bS l) (n : Int) μ) := ck (by
      rw[ho,Nv,<-ho,h,bx,Qv]
      rfl)
     rw[Nu,hB,hx,hrs];simp only[bQ,ey,gF];rw[h14,bx,DP]
    have h57:=aie (μ:=μ++[[rO l n]]) (t:=t) bu
    have h16 : ∀ (e : List Nd) (m c c0 : Int) (ns : List CV), (ev E).call 57 [LV.cv t.cv] (μ ++ [[rO l n]]) = some (.ret (.ltup [LV.cv (CV.sl ns), bv c0]) (μ ++ [[rO l n]])) -> FJ (ev E) t.cv c0 ns [rO l n] μ = some (rJ (cO e) m c (bS l) (n : Int) μ) -> Lg (ev E) t.cv [rO l n] μ = some (vh (cO e) m c (bS l) (n : Int) μ) := λe m c c0 ns h h17 => ck (by
     rw[ho,Nw,<-ho,h];simp only[bQ,ey]
     rw[h17,bx,DQ])
    have h17t: ∀(ns:List CV),wy (ev E) ns true [rO l n] μ=some (Ay [] 0 8 (bS l) (n:Int) μ):=λns=>ck (by rw[ho,Nx];rfl);by_cases hz:120<t.size
    ·rw[bC (.inl hz)];rw[bC hz]at h57;refine out [] 0 8 (ck ?_)
     have h17 : FJ (ev E) t.cv 8 [] [rO l n] μ = some (rJ [] 0 8 (bS l) (n : Int) μ) := ck (by
      rw[ho,Fl,<-ho,show (!decide ((8:Int)=0))=true from rfl,bH,h17t,bx,DR])
     rw[ho,Nw,<-ho,h57];simp only[bQ,ey];show opt (FJ (ev E) t.cv 8 [] [rO l n] μ) _=_;rw[h17,bx,DQ];rfl
    ·rw[bB hz]at h57;have h58:=adX (μ:=μ++[[rO l n]]) t bu;by_cases hw:nR t=true
     ·rw[bC (.inr hw)];refine out [] 0 8 (h16 [] 0 8 0 _ h57 (ck ?_));rw[ho,Fl,<-ho,h58];simp only[bQ,ey,hw];show cond (!decide ((0:Int)=0)) _ _=_;rw[show decide ((0:Int)=0)=true from rfl,cS,bI];show opt (wy (ev E) _ true [rO l n] μ) _=_;rw[h17t,bx,DR];rfl
     ·rw[bB (by simp[hz,hw])];refine out (t.flat 0) n 0 (h16 _ _ 0 0 _ h57 (ck ?_));have hf:nR t=false:=by simpa using hw
      have h18: ∀(ns:List CV),wy (ev E) ns false [rO l n] μ=some (Az ns (bS l) (n:Int) μ):=λns=>ck (by rw[ho,Nx];rfl);have h19: ∀(ns:List CV),Xs (ev E) ns [rO l n] μ=some (AA ns (n:Int) 0 (bS l) (n:Int) μ):=λns=>ck (by rw[ho,acA]);rw[ho,Fl,<-ho,h58];simp only[bQ,ey,hf];show cond (!decide ((0:Int)=0)) _ _=_;rw[show decide ((0:Int)=0)=true from rfl,cS,bI];show opt (wy (ev E) _ false [rO l n] μ) _=_;rw[h18,bx,Qw,<-ho,h19,bx,Qx]
 ·rw[bC hc,hG (uj [] 0 (lQ l).2 μ) (λs' h=>by rw[<-h,bB hc,Wj]),bx,G5];rfl
end
end Go.Abs
