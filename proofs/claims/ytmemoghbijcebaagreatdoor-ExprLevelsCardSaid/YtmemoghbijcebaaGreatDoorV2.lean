/-
  The statement ExprLevelsCardSaid, proved; part 3 of 11 of its proof.
-/
import Derived.Test.YtmemoghbijcebaaGreatDoorV1
import Derived.MapKept
set_option linter.all false
namespace Go.Abs
open Go
section
variable {P:Program}{ρ:Rho}{α:Type}{L:Nat}{G:Gh}{w:World}{s:S}{μ:Mu}{a:Act}{o:Oper}{h:OpHint}{k:LV->S->Mu->Option α}{p:CV->S->Mu->Option α}{r:α}{K:Act->World->Prop}{Q:Exit->Act->World->Prop}
def VRL_app: ∀{cs ds:List CV} {us vs:List Value},VRL G w cs us->VRL G w ds vs->VRL G w (cs++ds) (us++vs)
 |[],ds,us,vs,h,h'=>by simp only[VRL]at h;subst h;simpa using h'|c::cs,ds,us,vs,h,h'=>by simp only[VRL,ew]at h |-;obtain⟨v,r,rfl,h1,h2⟩:=h;exact⟨v,r++vs,rfl,h1,VRL_app h2 h'⟩
def uC {b s:Nat}: ∀{off:Nat} {xs:List CV},EL G w b s off xs->(∀x∈xs,x.cells.length=s)-> ∃vs,VRL G w (xs.flatMap CV.cells) vs/\ ∀(j:Nat) v,vs[j]? =some v->w.cell? ⟨b,off+j,none⟩=some v/\off+j<G.O b
 |off,[],_,_=>⟨[],by simp[VRL],λj v hv=>by simp at hv⟩|off,x::xs,h,hs=>by
  have hx:=HH h 0 x rfl;have h2:EL G w b s (off+s) xs:=by have:=EX 1 h;simp_all
  obtain⟨vs,h3,h4⟩:=uC h2 λy hy=>hs y (gj _ hy);simp only[A8,lH]at hx;have hl:=hs x bG;have h5: ∃us,VRL G w x.cells us/\ ∀(j:Nat) v,us[j]? =some v->w.cell? ⟨b,off+j,none⟩=some v/\off+j<G.O b:=by obtain⟨us,h6,h7⟩:=EW hx;refine⟨us,h6,λj v hv=>⟨h7 j v hv,?_⟩⟩;have hj:j<us.length:=(dm.1 hv).1;have:=VRL_len h6;obtain⟨v',_,h8,_⟩:=Id hx j (getElem x.cells j bu) bG;exact h8
  obtain⟨us,h6,h7⟩:=h5;have hus:=VRL_len h6;refine⟨us++vs,?_,λj v hv=> ?_⟩
  ·simp only[tu];exact VRL_app h6 h3
  grind
def BQ: ∀{xs:List CV},(∀x∈xs,iH x=true)-> ∀{vs:List Value},VRL G w (xs.flatMap CV.cells) vs-> ∀v∈vs,v.oneCell'=true
 |[],_,vs,h,v,hv=>by simp only[List.flatMap_nil,VRL]at h;subst h;simp at hv|x::xs,hs,vs,h,v,hv=>by
  have hx:=hs x bG;have key: ∀(cs ds:List CV) (vs:List Value),VRL G w (cs++ds) vs-> ∃us ws,vs=us++ws/\VRL G w cs us/\VRL G w ds ws:=by
   intro cs
   induction cs with
   |nil=>intro ds vs h;exact⟨[],vs,rfl,by simp[VRL],by simpa using h⟩|cons c cs ih=>intro ds vs h;simp only[ew,VRL]at h;obtain⟨v,r,rfl,h1,h2⟩:=h;obtain⟨us,ws,rfl,h3,h4⟩:=ih ds r h2;exact⟨v::us,ws,rfl,by simp only[VRL];exact⟨v,us,rfl,h1,h3⟩,h4⟩
  simp only[tu]at h;obtain⟨us,ws,rfl,h1,h2⟩:=key _ _ _ h;rcases j3.1 hv with hv|hv
  ·unfold iH at hx;split at hx
   ·exact rP hx h1 v hv
   ·rename_i c hc;have hcc:x.cells=[x]:=kn (by intro cs e;exact hc cs e);rw[hcc]at h1;exact rP (cs:=[x]) (by simp only[fD,hx]) h1 v hv
  ·exact BQ (λy hy=>hs y (gj _ hy)) h2 v hv
structure Appends (P:Program) (w:World) (xt:TypeId) (y:Value) (size m:Nat) (news:List Value):Prop where
 type: ∃d,P.underlying xt=some d/\ ∀k,d≠ .int k
 len: ∀w',(Builtin.lenOf y).run P w'= .ok m w'
 cells: ∀w',w'.heap=w.heap->(Builtin.firstCells size m y).run P w'= .ok news.toArray w'
 size:news.length=m*size
def Bn {t ty e xt:TypeId}{i:TypeInfo}{y:Value}{m:Nat}{news:List Value}(ht:P.underlying t=some (.slice e))(hi:P.info? e=some i)(A:Appends P w xt y i.size m news)
 {g sLen sCap:Nat} {cur:Array Value} {e':TypeId} {fz:Nat×Nat} (hg:w.heap[g]? =some (.cells cur e' fz)) (hfz:g9 cur fz) (h1: ∀u∈news,u.oneCell'=true) (hroom:sLen+m<=sCap) (hfit:sLen*i.size+news.length<=cur.size):
 (Builtin.append_ #[t,xt] ty #[.slice (some ⟨g,0,none⟩) sLen sCap,y]).run P w= .ok (.slice (some ⟨g,0,none⟩) (sLen+m) sCap) (w.setRow g (dO cur (sLen*i.size) news)):=by
 obtain⟨d,hd,hni⟩:=A.type;have hst:=pV (P:=P) g (sLen*i.size) e' fz news 0 cur w hg hfz (by simpa using hfit) h1;have hf:=A.cells w rfl;have hn:(match d with| .int _=>true|_=>false)=false:=by cases d<;>first|rfl|exact absurd rfl (hni _)
 simp only[lH]at hst;simp[Builtin.append_,c8 ht,c8 hd,sizeOf,typeInfo,hi,A.len,hroom,hf,Addr.add_lit,hst]
def Bl {t ty e xt:TypeId}{i:TypeInfo}{z:Value}{y:Value}{m:Nat}{news:List Value}(ht:P.underlying t=some (.slice e))(hi:P.info? e=some i)(hz:i.zero=some z)(A:Appends P w xt y i.size m news)
 {v:Value} {b:Option Addr} {sLen sCap:Nat} {olds:List Value} (holds: ∀w',w'.heap=w.heap->(Builtin.firstCells i.size sLen (.slice b sLen sCap)).run P w'= .ok olds.toArray w')
 (hg:sCap<sLen+m) (h63:((sLen+m:Nat):Int)<=9223372036854775807) (hfit:Builtin.nextslicecap (sLen+m) sCap*i.bytes<=281474976710656):
 (Builtin.append_ #[t,xt] ty #[.slice b sLen sCap,y]).run P w=
  .ok (.slice (some ⟨w.heap.size,0,none⟩) (sLen+m) (grownCap w (sLen+m) sCap e))
   (w.drew.alloc (.cells (olds.toArray++news.toArray++Builtin.zeroCells z.cells (grownCap w (sLen+m) sCap e-(sLen+m))) e)):=by
 obtain⟨d,hd,hni⟩:=A.type;have hn0:(match d with| .int _=>true|_=>false)=false:=by cases d<;>first|rfl|exact absurd rfl (hni _)
 have hn: ¬(sLen+m<=sCap):=bu;have h63': ¬(9223372036854775807<((sLen:Int)+(m:Int))):=bu;have h48': ¬(281474976710656<Builtin.nextslicecap (sLen+m) sCap*i.bytes):=bu;have hf:=A.cells w.drew rfl;have hfo:=holds w.drew rfl;simp[Builtin.append_,c8 ht,c8 hd,sizeOf,typeInfo,zeroValue,hi,hz,A.len,hn,h63',h48',Question.forced,hf,hfo,newRow,grownCap];grind
def Bm {t ty e xt:TypeId}{i:TypeInfo}{y:Value}(ht:P.underlying t=some (.slice e))(hi:P.info? e=some i)(A:Appends P w xt y i.size 0 []):
 (Builtin.append_ #[t,xt] ty #[.slice none 0 0,y]).run P w= .ok (.slice none 0 0) w:=by
 obtain⟨d,hd,hni⟩:=A.type;have hn0:(match d with| .int _=>true|_=>false)=false:=by cases d<;>first|rfl|exact absurd rfl (hni _)
 simp[Builtin.append_,c8 ht,c8 hd,sizeOf,typeInfo,hi,A.len,A.cells w rfl]
def Lq {G0:Gh}{w0:World}{T0:Nat->Prop}(R:Rel G L s μ a.tmps w)(E:Ext L T0 G0 w0 G w (bH G w s μ a.tmps))(hd: ∀d,o.dst=some d->d<a.tmps.size)
 {t ty e xt:TypeId} {i:TypeInfo} {z:Value} {u y:Value} {m:Nat} {news:List Value} {xs ys:List CV} (ht:P.underlying t=some (.slice e)) (hi:P.info? e=some i) (hz:i.zero=some z) (hzs:z.cells.size=i.size)
 (hb1:1<=i.size) (hb2:i.bytes<=128) (A:Appends P w xt y i.size m news) (hy:VRL G w (ys.flatMap CV.cells) news) (hm:ys.length=m)
 (hxs: ∀x∈xs,x.cells.length=i.size/\iH x=true) (hys: ∀x∈ys,x.cells.length=i.size/\iH x=true) (hsm:xs.length+ys.length<=1099511627776) (hbt:(Nat.beq e 5||gw ys)=true)
 (hu:ox G w xs u) (hown: ∀b,bZ (.osl xs) u b->(∀l,¬bF G w s.fr a.tmps (μ++[s.lam]) l b)/\(∀lev i,b6 (bP (μ++[s.lam]) lev i)->G.β lev i≠b)/\(T0 b\/w0.heap.size<=b)):
 ∃cv w' G',(Builtin.append_ #[t,xt] ty #[u,y]).run P w= .ok cv w'/\Rel G' L (s.put o.dst (.osl (xs++ys))) μ (a.put o.dst cv).tmps w'/\Ext L T0 G0 w0 G' w' (bH G' w' (s.put o.dst (.osl (xs++ys))) μ (a.put o.dst cv).tmps):=by
 have hnl:news.length=ys.length*i.size:=by rw[A.size,hm]
 have hone: ∀u∈news,u.oneCell'=true:=BQ (λx hx=>(hys x hx).2) hy;have grown: ∀(b:Option Addr) (cap:Nat) (olds:List Value),u= .slice b xs.length cap->cap<xs.length+m->ys≠[]->VRL G w (xs.flatMap CV.cells) olds->
  (∀w',w'.heap=w.heap->(Builtin.firstCells i.size xs.length (.slice b xs.length cap)).run P w'= .ok olds.toArray w')->
  ∃cv w' G',(Builtin.append_ #[t,xt] ty #[u,y]).run P w= .ok cv w'/\Rel G' L (s.put o.dst (.osl (xs++ys))) μ (a.put o.dst cv).tmps w'/\Ext L T0 G0 w0 G' w' (bH G' w' (s.put o.dst (.osl (xs++ys))) μ (a.put o.dst cv).tmps):=by
  intro b cap olds hu' hcap hyne hox hol;subst hu';have hmul:(xs.length+m)*i.bytes<=(xs.length+m)*128:=Gd _ hb2;have hrun:=Bl (P:=P) (w:=w) (ty:=ty) (v:=y) ht hi hz A hol hcap bu (growslice_fits hcap bu);obtain⟨R2,hO2⟩:=R.drew;have E2:Ext L T0 G0 w0 G w.drew (bH G w.drew s μ a.tmps):=by
   refine E.drew.weaken (λ_ h=>h) λb hb=> ?_;rcases hb with⟨l,hb⟩|hb
   ·exact .inl ⟨l,hO2 l b hb⟩
   ·exact .inr hb
  have hge:=grownCap_ge w (xs.length+m) cap e;have hcm:grownCap w (xs.length+m) cap e<=maxLen:=Gk w (xs.length+m) cap e (by unfold maxLen;omega);have hol2:=VRL_len hox;have hfl:=flat_len (λx hx=>(hxs x hx).1);have hall: ∀x∈xs++ys,x.cells.length=i.size:=λx hx=>by
   rcases j3.1 hx with hx|hx
   ·exact(hxs x hx).1
   ·exact(hys x hx).1
  have hlen:(xs++ys).length=xs.length+m:=by rw[cC,hm]
  generalize hcur:olds.toArray++news.toArray++Builtin.zeroCells z.cells (grownCap w (xs.length+m) cap e-(xs.length+m))=cur at hrun;have hcs:cur.size=grownCap w (xs.length+m) cap e*i.size:=by rw[<-hcur];simp only[Array.size_append,Po,size_zeroCells,hzs,hnl,<-hol2,hfl,hm];rw[<-pm,<-pm];congr 1;omega
  have hgetl: ∀(j:Nat) v,(olds++news)[j]? =some v->cur.getD j undef=v:=by intro j v hv;have hj:j<(olds++news).length:=(dm.1 hv).1;rw[<-hcur,d7,<-q5];simp only[Array.toList_append,eV];rw[<-eV,fN (by simpa using hj),hv];rfl
  obtain ⟨G1, R3, E3⟩ := lw (o := o) (n := (xs ++ ys).length * i.size) (ob := .cells cur e) (v := .osl (xs ++ ys)) (cv := .slice (some ⟨w.heap.size, 0, none⟩) (xs.length + m) (grownCap w (xs.length + m) cap e)) R2 E2 hd (λhle => by
   simp only[LVR];refine .inr ⟨w.heap.size,grownCap w (xs.length+m) cap e,cur,e,i.size,by rw[hlen],kN w.drew _,bu,hcm,bu,hall,λh0=> ?_,?_,by rw[show w.heap.size=w.drew.heap.size from rfl,fh],Ly hbt hyne⟩
   ·have:=m6 List.length h0;rw[hlen]at this;simp only[cG]at this;omega
   ·have hvl:VRL G w ((xs++ys).flatMap CV.cells) (olds++news):=by rw[List.flatMap_append];exact VRL_app hox hy
    obtain⟨hl2,hg2⟩:=fY hvl;refine EL_of (vs:=olds++news) hall (iP hl2 λj c v hc hv=> ?_) λj v hv=> ?_
    ·obtain⟨v',hv',hr⟩:=hg2 j c hc;rw[hv]at hv';injection hv' with hv';subst hv';exact cZ hle c v (cZ (G:=G) (w:=w) (G':=G) (w':=w.drew) ⟨λ_ _ _ h hb=>⟨h,hb⟩,λ_ _ h=>⟨h,rfl,rfl⟩,λ_ _ _ h hc=>⟨h,hc⟩,λb cur e fz h=>⟨cur,fz,h,rfl⟩⟩ c v hr)
    ·have hj:j<(olds++news).length:=(dm.1 hv).1;have hj2:j<(xs++ys).length*i.size:=by rw[<-flat_len hall,hl2];exact hj
     have hj3:j<cur.size:=by rw[hcs];refine tq hj2 (vQ _ ?_);omega
     rw[gC,show w.heap.size=w.drew.heap.size from rfl,fh];refine⟨?_,hj2⟩
     rw[cell_of_heap (kN w.drew (.cells cur e)) hj3,hgetl j v hv]) (λb hb=>by simpa[bZ]using hb.symm)
  exact⟨_,_,G1,hrun,R3,E3⟩
 rcases hu with⟨rfl,rfl⟩|⟨b,cap,cur,e',sz,hue,hb,hc1,hc2,hc3,hc4,hc5,hel,hO,hC⟩
 ·by_cases h0:m=0
  ·subst h0;have hy0:ys=[]:=kM hm;subst hy0;have hn0:news=[]:=kM (by simpa using hnl);subst hn0;have hrun:=Bm (P:=P) (w:=w) (ty:=ty) ht hi A;obtain⟨R2,E2⟩:=ex (dst:=o.dst) (v:= .osl []) (cv:= .slice none 0 0) R E (by simp only[LVR];exact .inl ⟨rfl,rfl⟩) (λb hb=>by simp[bZ]at hb) hd;exact⟨_,_,G,hrun,R2,E2⟩
  ·exact grown none 0 [] rfl (by simp only[cG];omega) (λh=>h0 (by subst h;simpa using hm.symm)) (by simp[VRL]) (λw' _=>A1 w' _ _ _ _)
 ·subst hue;obtain⟨olds,hox,hoc⟩:=uC hel hc4;have hsz:xs=[]\/sz=i.size:=by
   cases xs with|nil=>exact .inl rfl|cons x xs=>exact .inr ((hc4 x bG).symm.trans (hxs x bG).1)
  have hol2:=VRL_len hox;have hfl:=flat_len (λx hx=>(hxs x hx).1);by_cases hroom:xs.length+m<=cap
  ·
   have hcap0:xs=[]->m=0:=λh=>by have:=hc5 h;subst h;simp only[cG]at hroom;omega
   have hfit:xs.length*i.size+news.length<=cur.size:=by
    rcases hsz with h0|h0
    ·have:=hcap0 h0;subst h0;rw[hnl,hm,this];simp
    ·subst h0;rw[hnl,hm,<-pm];exact j5 (vQ _ hroom) hc3
   have hrun:=Bn (P:=P) (w:=w) (ty:=ty) ht hi A hb (ol cur) hone hroom hfit;obtain⟨ho1,ho2,ho3⟩:=hown b (by simp[bZ]);have hOb:G.O b=xs.length*i.size:=by
    rw[hO];rcases hsz with h0|h0
    ·subst h0;simp
    ·rw[h0]
   have hblk: ∀b',b'≠b->(w.setRow b (dO cur (xs.length*i.size) news)).heap[b']? =w.heap[b']? :=λb' h=>oq w b b' _ h;have hnh:=pZ w b cur (dO cur (xs.length*i.size) news) e' (0,0) hb;have hle:Le G w (G.setO b ((xs++ys).length*i.size)) (w.setRow b (dO cur (xs.length*i.size) news)):=by
    refine⟨λb' es clk h hb'=> ?_,λ_ _ h=>⟨h,rfl,rfl⟩,λb' off v h hc=> ?_,λb' cur2 e2 fz2 h=> ?_⟩
    ·have hne:b'≠b:=λe=>by subst e;rw[hb]at hb';cases hb'
     exact⟨by rw[dU hne];exact h,by rw[hblk b' hne];exact hb'⟩
    ·by_cases hne:b'=b
     ·subst hne;rw[fh];refine⟨?_,?_⟩
      ·rw[hOb]at h;refine tq h (vQ _ ?_);simp
      ·rw[hOb]at h;have hcur:off<cur.size:=bu;rw[cell_of_heap hb hcur]at hc;rw[cell_of_heap hnh (by rw[fe];exact hcur),iG (.inl h)];exact hc
     ·refine⟨by rw[dU hne];exact h,?_⟩;rw[<-hc];simp only[World.cell?];rw[hblk b' hne]
    ·by_cases hne:b'=b
     ·subst hne;rw[hb]at h;obtain⟨rfl,rfl,rfl⟩:=(j4 ..).mp (gY h);exact⟨_,_,hnh,fe _ _ _⟩
     ·exact⟨cur2,fz2,by rw[hblk b' hne];exact h,rfl⟩
   have hTb: ∀b',jz G w s.fr a.tmps (μ++[s.lam]) b'->b'≠b:=by
    rintro b' (⟨l,hl⟩|⟨lev,j,hl,rfl⟩) e
    ·subst e;exact ho1 l hl
    ·exact ho2 lev j hl e
   obtain⟨R2,hO2⟩:=R.frame hle (λb' hb'=>⟨hblk b' (hTb b' hb'),dU (hTb b' hb')⟩) (λ_ _ _=>⟨rfl,rfl⟩) rfl;have E2:Ext L T0 G0 w0 (G.setO b ((xs++ys).length*i.size)) (w.setRow b (dO cur (xs.length*i.size) news)) (bH (G.setO b ((xs++ys).length*i.size)) (w.setRow b (dO cur (xs.length*i.size) news)) s μ a.tmps):=by
    refine⟨E.le.trans hle,E.os,E.tape,E.output,by simpa using E.size,λb' hb' hn=> ?_,λb' hb'=> ?_,E.lev⟩
    ·obtain⟨h1,h2⟩:=E.keep b' hb' hn;have hne:b'≠b:=λe=>by
      subst e;rcases ho3 with h|h
      ·exact hn h
      ·omega
     exact⟨(hblk b' hne).trans h1,(dU hne).trans h2⟩
    ·refine E.grow b' ?_;rcases hb' with⟨l,hl⟩|hl
     ·exact .inl ⟨l,hO2 l b' hl⟩
     ·exact .inr hl
   have hlen:(xs++ys).length=xs.length+m:=by rw[cC,hm]
   have hall: ∀x∈xs++ys,x.cells.length=i.size:=λx hx=>by
    rcases j3.1 hx with hx|hx
    ·exact(hxs x hx).1
    ·exact(hys x hx).1
   have hvl:VRL G w ((xs++ys).flatMap CV.cells) (olds++news):=by rw[List.flatMap_append];exact VRL_app hox hy
   have hoL:olds.length=xs.length*i.size:=by rw[<-hol2,hfl]
   obtain ⟨R3, E3⟩ := ex (dst := o.dst) (v := .osl (xs ++ ys)) (cv := .slice (some ⟨b, 0, none⟩) (xs.length + m) cap) R2 E2 (by
    simp only[LVR];refine .inr ⟨b,cap,_,e',i.size,by rw[hlen],hnh,bu,hc2,?_,hall,λh0=> ?_,?_,fh,λhb1 hb2=>hC (xC xs ys hb1) λhxn=>hb2 (by subst hxn;have:=hcap0 rfl;rw[fb];exact kM bu)⟩
    ·rw[fe];rcases hsz with h0|h0
     ·have:=hc5 h0;rw[this];simp
     ·rw[<-h0];exact hc3
    ·exact hc5 (List.append_eq_nil_iff.1 h0).1
    ·obtain⟨hl2,hg2⟩:=fY hvl;refine EL_of (vs:=olds++news) hall (iP hl2 λj c v hc hv=> ?_) λj v hv=> ?_
     ·obtain⟨v',hv',hr⟩:=hg2 j c hc;rw[hv]at hv';injection hv' with hv';subst hv';exact cZ hle c v hr
     ·have hj:j<(olds++news).length:=(dm.1 hv).1;have hj2:j<(xs++ys).length*i.size:=by rw[<-flat_len hall,hl2];exact hj
      rw[cC]at hj;rw[gC,fh];refine⟨?_,hj2⟩;rw[cell_of_heap hnh (by rw[fe];omega)];by_cases hjo:j<olds.length
      ·rw[fN hjo]at hv;rw[iG (.inl bu)];have h1:=(hoc j v hv).1;rw[gC,cell_of_heap hb bu]at h1;exact h1
      ·rw[ju bu]at hv;have:=kH (cur:=cur) (off:=xs.length*i.size) (vs:=news) (j:=j-olds.length) hfit bu;rw[show xs.length*i.size+(j-olds.length)=j by omega]at this;rw[this,fp,hv]
       rfl) (λb' hb'=>by
    have:b=b':=by simpa[bZ]using hb'
    subst this
    exact⟨λl hl=>ho1 l (hO2 l b hl),λlev j hl=>ho2 lev j hl,ho3⟩) hd
   exact⟨_,_,_,hrun,R3,E3⟩
  ·refine grown (some ⟨b,0,none⟩) cap olds rfl bu (λhyn=>by subst hyn;simp only[cG]at hm;omega) hox λw' hw'=> ?_;refine A3 w' i.size xs.length ⟨b,0,none⟩ xs.length cap olds (by rw[<-hol2,hfl]) λj v hv=> ?_;have:=(hoc j v hv).1;rw[gE];simp only[World.cell?]at this |-;rw[hw'];exact this
def SB {G0:Gh}{w0:World}{T0:Nat->Prop}(R:Rel G L s μ a.tmps w)(E:Ext L T0 G0 w0 G w (bH G w s μ a.tmps))(hd: ∀d,o.dst=some d->d<a.tmps.size)
 {t ty e xt:TypeId} {i:TypeInfo} {z:Value} {u y:Value} {m:Nat} {news:List Value} {xs:List Value} (ht:P.underlying t=some (.slice e)) (hi:P.info? e=some i) (hz:i.zero=some z) (hzs:z.cells.size=i.size)
 (hs1:i.size=1) (hb2:i.bytes<=128) (A:Appends P w xt y i.size m news) (hone: ∀u∈news,u.oneCell'=true) (hsm:xs.length+news.length<=1099511627776)
 (hu:uK G w xs u) (hown: ∀b,bZ (.ost xs) u b->(∀l,¬bF G w s.fr a.tmps (μ++[s.lam]) l b)/\(∀lev i,b6 (bP (μ++[s.lam]) lev i)->G.β lev i≠b)/\(T0 b\/w0.heap.size<=b)):
 ∃cv w' G',(Builtin.append_ #[t,xt] ty #[u,y]).run P w= .ok cv w'/\Rel G' L (s.put o.dst (.ost (xs++news))) μ (a.put o.dst cv).tmps w'/\Ext L T0 G0 w0 G' w' (bH G' w' (s.put o.dst (.ost (xs++news))) μ (a.put o.dst cv).tmps):=by
 have hm:news.length=m:=by rw[A.size,hs1,Nat.mul_one]
 have grown: ∀(b:Option Addr) (cap:Nat),u= .slice b xs.length cap->cap<xs.length+m->
  (∀w',w'.heap=w.heap->(Builtin.firstCells i.size xs.length (.slice b xs.length cap)).run P w'= .ok xs.toArray w')->
  ∃cv w' G',(Builtin.append_ #[t,xt] ty #[u,y]).run P w= .ok cv w'/\Rel G' L (s.put o.dst (.ost (xs++news))) μ (a.put o.dst cv).tmps w'/\Ext L T0 G0 w0 G' w' (bH G' w' (s.put o.dst (.ost (xs++news))) μ (a.put o.dst cv).tmps):=by
  intro b cap hu' hcap hol;subst hu';have hmul:(xs.length+m)*i.bytes<=(xs.length+m)*128:=Gd _ hb2;have hrun:=Bl (P:=P) (w:=w) (ty:=ty) (v:=y) ht hi hz A hol hcap bu (growslice_fits hcap bu);obtain⟨R2,hO2⟩:=R.drew;have E2:Ext L T0 G0 w0 G w.drew (bH G w.drew s μ a.tmps):=by
   refine E.drew.weaken (λ_ h=>h) λb hb=> ?_;rcases hb with⟨l,hb⟩|hb
   ·exact .inl ⟨l,hO2 l b hb⟩
   ·exact .inr hb
  have hge:=grownCap_ge w (xs.length+m) cap e;have hcm:grownCap w (xs.length+m) cap e<=maxLen:=Gk w (xs.length+m) cap e (by unfold maxLen;omega);have hlen:(xs++news).length=xs.length+m:=by rw[cC,hm]
  generalize hcur:xs.toArray++news.toArray++Builtin.zeroCells z.cells (grownCap w (xs.length+m) cap e-(xs.length+m))=cur at hrun;have hcs:cur.size=grownCap w (xs.length+m) cap e:=by rw[<-hcur];simp only[Array.size_append,Po,size_zeroCells,hzs,hs1,hm];omega
  have hgetl: ∀(j:Nat) v,(xs++news)[j]? =some v->cur.getD j undef=v:=by intro j v hv;have hj:j<(xs++news).length:=(dm.1 hv).1;rw[<-hcur,d7,<-q5];simp only[Array.toList_append,eV];rw[<-eV,fN (by simpa using hj),hv];rfl
  obtain ⟨G1, R3, E3⟩ := lw (o := o) (n := 0) (ob := .cells cur e) (v := .ost (xs ++ news)) (cv := .slice (some ⟨w.heap.size, 0, none⟩) (xs.length + m) (grownCap w (xs.length + m) cap e)) R2 E2 hd (λhle => by
   simp only[LVR]
   exact .inr ⟨w.heap.size,grownCap w (xs.length+m) cap e,cur,e,by rw[hlen],kN w.drew _,bu,hcm,bu,by rw[show w.heap.size=w.drew.heap.size from rfl,fh],hgetl⟩) (λb hb=>by simpa[bZ]using hb.symm)
  exact⟨_,_,G1,hrun,R3,E3⟩
 rcases hu with⟨rfl,rfl⟩|⟨b,cap,cur,e',hue,hb,hc1,hc2,hc3,hO,hC⟩
 ·by_cases h0:m=0
  ·subst h0;have hn0:news=[]:=kM hm;subst hn0;have hrun:=Bm (P:=P) (w:=w) (ty:=ty) ht hi A;obtain⟨R2,E2⟩:=ex (dst:=o.dst) (v:= .ost []) (cv:= .slice none 0 0) R E (by simp only[LVR];exact .inl ⟨rfl,rfl⟩) (λb hb=>by simp[bZ]at hb) hd;exact⟨_,_,G,hrun,R2,E2⟩
  ·exact grown none 0 rfl (by simp only[cG];omega) (λw' _=>A1 w' _ _ _ _)
 ·subst hue;by_cases hroom:xs.length+m<=cap
  ·have hfit:xs.length*i.size+news.length<=cur.size:=by rw[hs1,hm];omega
   have hrun:=Bn (P:=P) (w:=w) (ty:=ty) ht hi A hb (ol cur) hone hroom hfit;obtain⟨ho1,ho2,ho3⟩:=hown b (by simp[bZ]);have hblk: ∀b',b'≠b->(w.setRow b (dO cur (xs.length*i.size) news)).heap[b']? =w.heap[b']? :=λb' h=>oq w b b' _ h;have hnh:=pZ w b cur (dO cur (xs.length*i.size) news) e' (0,0) hb;have hle:Le G w G (w.setRow b (dO cur (xs.length*i.size) news)):=by
    refine⟨λb' es clk h hb'=> ?_,λ_ _ h=>⟨h,rfl,rfl⟩,λb' off v h hc=> ?_,λb' cur2 e2 fz2 h=> ?_⟩
    ·have hne:b'≠b:=λe=>by subst e;omega
     exact⟨h,by rw[hblk b' hne];exact hb'⟩
    ·have hne:b'≠b:=λe=>by subst e;omega
     refine⟨h,?_⟩;rw[<-hc];simp only[World.cell?];rw[hblk b' hne]
    ·by_cases hne:b'=b
     ·subst hne;rw[hb]at h;obtain⟨rfl,rfl,rfl⟩:=(j4 ..).mp (gY h);exact⟨_,_,hnh,fe _ _ _⟩
     ·exact⟨cur2,fz2,by rw[hblk b' hne];exact h,rfl⟩
   have hTb: ∀b',jz G w s.fr a.tmps (μ++[s.lam]) b'->b'≠b:=by
    rintro b' (⟨l,hl⟩|⟨lev,j,hl,rfl⟩) e
    ·subst e;exact ho1 l hl
    ·exact ho2 lev j hl e
   obtain⟨R2,hO2⟩:=R.frame hle (λb' hb'=>⟨hblk b' (hTb b' hb'),rfl⟩) (λ_ _ _=>⟨rfl,rfl⟩) rfl;have E2:Ext L T0 G0 w0 G (w.setRow b (dO cur (xs.length*i.size) news)) (bH G (w.setRow b (dO cur (xs.length*i.size) news)) s μ a.tmps):=by
    refine⟨E.le.trans hle,E.os,E.tape,E.output,by simpa using E.size,λb' hb' hn=> ?_,λb' hb'=> ?_,E.lev⟩
    ·obtain⟨h1,h2⟩:=E.keep b' hb' hn;have hne:b'≠b:=λe=>by
      subst e;rcases ho3 with h|h
      ·exact hn h
      ·omega
     exact⟨(hblk b' hne).trans h1,h2⟩
    ·refine E.grow b' ?_;rcases hb' with⟨l,hl⟩|hl
     ·exact .inl ⟨l,hO2 l b' hl⟩
     ·exact .inr hl
   have hlen:(xs++news).length=xs.length+m:=by rw[cC,hm]
   obtain ⟨R3, E3⟩ := ex (dst := o.dst) (v := .ost (xs ++ news)) (cv := .slice (some ⟨b, 0, none⟩) (xs.length + m) cap) R2 E2 (by
    simp only[LVR];refine .inr ⟨b,cap,_,e',by rw[hlen],hnh,bu,hc2,by rw[fe];exact hc3,hO,λj v hv=> ?_⟩;rw[hs1,Nat.mul_one];have hj:j<(xs++news).length:=(dm.1 hv).1;by_cases hjo:j<xs.length
    ·rw[fN hjo]at hv;rw[iG (.inl hjo)];exact hC j v hv
    ·rw[ju bu]at hv;rw[hlen]at hj;have:=kH (cur:=cur) (off:=xs.length) (vs:=news) (j:=j-xs.length) bu bu;rw[show xs.length+(j-xs.length)=j by omega]at this;rw[this,fp,hv]
     rfl) (λb' hb'=>by
    have:b=b':=by simpa[bZ]using hb'
    subst this
    exact⟨λl hl=>ho1 l (hO2 l b hl),λlev j hl=>ho2 lev j hl,ho3⟩) hd
   exact⟨_,_,_,hrun,R3,E3⟩
  ·refine grown (some ⟨b,0,none⟩) cap rfl bu λw' hw'=> ?_;refine A3 w' i.size xs.length ⟨b,0,none⟩ xs.length cap xs (by rw[hs1,Nat.mul_one]) λj v hv=> ?_;have hj:j<xs.length:=(dm.1 hv).1;have:=cell_of_heap (w:=w) (j:=j) hb bu;rw[hC j v hv]at this;rw[gE,gC];simp only[World.cell?]at this |-;rw[hw'];exact this
def Do {t e xt e':TypeId}{sz:Nat}{ys:List CV}{y:Value}(hu:P.underlying xt=some (.slice e'))(hv:VR G w (.sl ys) y)(hs: ∀x∈ys,x.cells.length=sz):
 ∃news,Appends P w xt y sz ys.length news/\VRL G w (ys.flatMap CV.cells) news:=by
 simp only[VR]at hv;obtain⟨A,len,cap,rfl,rfl,hlc,hx⟩:=hv;rcases hx with h0|⟨b,off,sz',rfl,hs',hel⟩
 ·have:ys=[]:=kM h0;subst this;refine⟨[],⟨⟨_,hu,λk=>by simp⟩,λw'=>rfl,λw' _=> ?_,bG⟩,by simp[VRL]⟩;cases A with|none=>exact A1 w' _ _ _ _|some A=>simp[Builtin.firstCells,loadCells,loadCellsFrom]
 ·obtain⟨news,h1,h2⟩:=uC hel hs';have hl:=VRL_len h1;rw[flat_len hs]at hl;refine⟨news,⟨⟨_,hu,λk=>by simp⟩,λw'=>rfl,λw' hw'=> ?_,hl.symm⟩,h1⟩;refine A3 w' sz ys.length _ _ _ news hl.symm λj v hv=> ?_;have:=(h2 j v hv).1;rw[gE];simp only[World.cell?]at this |-;simp_all
def Lr {xt:TypeId}{l:List UInt8}(hu:P.underlying xt=some .string):
 ∃news,Appends P w xt (.string ⟨⟨l⟩⟩) 1 l.length news/\VRL G w ((l.map λ(b:UInt8)=>CV.v (.int .u8 (b.toNat:Int))).flatMap CV.cells) news:=by
 refine⟨iI l,⟨⟨_,hu,λk=>by simp⟩,λw'=>rfl,λw' _=> ?_,by simp[iI]⟩,?_⟩
 ·simp only[Builtin.firstCells];have:((⟨⟨l⟩⟩:ByteArray).extract 0 l.length).data=⟨l⟩:=by simp
  rw[this];simp[iI]
 ·rw[wG];refine iP (by simp[iI]) λj c v hc hv=> ?_;simp only[iI,fP,pi]at hc hv;obtain⟨b,hb,rfl⟩:=hc;obtain⟨b',hb',rfl⟩:=hv;rw[hb]at hb';injection hb' with hb';subst hb';simp[VR]
def IM {e:TypeId}{i:TypeInfo}(hi:P.info? e=some i)(h:nW P e=true):i.bytes<=128/\1<=i.size:=by unfold nW at h;simp_all
def xq: ∀{as bs:List CV},fD as=true->fD bs=true->fD (as++bs)=true
 |[],bs,_,h=>h|c::r,bs,h1,h2=>by
  simp only[fD,ew]at h1 |-;split at h1
  ·rename_i hc;first|exact xq h1 h2|(simp only[hc];exact xq h1 h2)
  ·cases h1
def zZ: ∀{xs:List CV},(∀x∈xs,iH x=true)->fD (xs.flatMap CV.cells)=true
 |[],_=>rfl|x::xs,h=>by
  simp only[tu];refine xq ?_ (zZ λy hy=>h y (gj _ hy));have hx:=h x bG;unfold iH at hx;split at hx
  ·exact hx
  ·rename_i c hc;rw[kn (by intro cs e;exact hc cs e)];simp only[fD,hx]
def aab {x y:Operand}{c:Call}{t t2:TypeId}(ho:o.op= .call c)(hc:c.callee= .builtin .copy)(hx:c.args.toList=[x,y])(ht:c.argTypes.toList=[t,t2])(R:Rel G L s μ a.tmps w)(hd: ∀d,o.dst=some d->d<a.tmps.size)
 (hk:KOK L G w s μ a o.dst k r K) (hop:DD P t (evA h s.fr x) (evA h s.fr y) (bw h.take s) μ k=some r):o.wp P a w K Q:=by
 obtain⟨R1,E1,hO⟩:=fa R h.take;have hl:=ci h.take s;unfold DD at hop;split at hop<;>try(simp at hop;done)
 rename_i e hu;obtain⟨sz,hsz,hop⟩:=bz.1 hop;split at hop<;>try(simp at hop;done)
 rename_i i off len hex;split at hop<;>try(simp at hop;done)
 rename_i z cs hob;obtain⟨hz,hop⟩:=bM.1 hop;obtain⟨ys,hys,hop⟩:=bz.1 hop;obtain⟨hg,hop⟩:=bM.1 hop;have hz:=eC hz;simp only[cM]at hg;obtain⟨hg1,hg2,hg3⟩:=hg;have hg2:=fO hg2;have hg3:=fO hg3;have hall:=lJ hg1;have hv:=i7 hys (cI R h y).1;have hvx:=(cI R h x).1;rw[hex]at hvx;simp only[LVR]at hvx;obtain⟨hid,cap,cur,e',fz,hvx,hlc,hcm,hb,hsize⟩:=hvx;have hargs:c.args= #[x,y]:=by cases ha:c.args;simp_all
 have htys:c.argTypes= #[t,t2]:=by cases ha:c.argTypes;simp_all
 obtain⟨news,hfirst,hlen,hvl⟩: ∃news:List Value,(Builtin.firstCells sz ys.length (a.eval y)).run P w= .ok news.toArray w/\(Builtin.lenOf (a.eval y)).run P w= .ok ys.length w/\VRL G w (ys.flatMap CV.cells) news:=by
  simp only[VR]at hv;obtain⟨A,ln,cp,he,rfl,hlc',hx'⟩:=hv;rw[he];rcases hx' with h0|⟨b,of,sz',rfl,hs',hel⟩
  ·have:ys=[]:=kM h0;subst this;refine⟨[],?_,rfl,by simp[VRL]⟩;cases A with|none=>exact A1 w _ _ _ _|some A=>simp[Builtin.firstCells,loadCells,loadCellsFrom]
  ·have hsz':ys=[]\/sz'=sz:=by
    cases ys with|nil=>exact .inl rfl|cons q ys=>exact .inr ((hs' q bG).symm.trans (hall q bG).1)
   obtain⟨news,h1,h2⟩:=uC hel hs';have hll:=VRL_len h1;rw[flat_len λx hx=>(hall x hx).1]at hll;refine⟨news,A3 w sz ys.length _ _ _ news hll.symm λj v hv=> ?_,rfl,h1⟩;rw[gE];exact(h2 j v hv).1
 have hnl:=VRL_len hvl;rw[flat_len λx hx=>(hall x hx).1]at hnl;have hw:obW true (ys.length*sz) (.arr z cs) off (.cv (.agg (ys.flatMap CV.cells)))=some (.arr z (dh cs off (ys.flatMap CV.cells))):=by
  have h1:(ga (ys.length*sz) (CV.agg (ys.flatMap CV.cells))&&Nat.ble (off+ys.length*sz) cs.length)=true:=by simp only[ga,CV.cells,iH,cM];refine⟨⟨?_,zZ λx hx=>(hall x hx).2⟩,by rw[Nat.ble_eq];exact hg3⟩;rw[flat_len λx hx=>(hall x hx).1];exact pn _
  simp only[obW,cx,opt];rw[h1];rfl
 obtain⟨w',h1,hrun,R2,E2⟩:=R1.writeW (P:=P) (s1:={bw h.take s with lam:=(bw h.take s).lam.set i (.arr z (dh cs off (ys.flatMap CV.cells)))}) (μ1:=μ) (lev:=L) (i:=i) (off:=off) (cv:= .agg news.toArray)
  (ob:= .arr z cs) (o':= .arr z (dh cs off (ys.flatMap CV.cells))) (v:= .cv (.agg (ys.flatMap CV.cells))) (bb:=true) (n:=ys.length*sz)
  E1 (by rw[<-hob,<-R.lev];exact cV) hw ⟨λ_=>by simp only[LVR,VR];exact⟨_,rfl,hvl⟩,λe=>by omega⟩ (λb hb=>by simp[bZ]at hb) rfl rfl bG rfl (by rw[<-R.lev];exact od.symm)
 obtain⟨R3,E3⟩:=ex (dst:=o.dst) (v:= .cv (.v (.int .i64 (ys.length:Int)))) (cv:= .int .i64 (ys.length:Int)) R2 E2 (by simp[LVR,VR]) (λb hb=>by simp[bZ]at hb) hd;refine ez ?_ (hk _ _ _ _ w' G hop R3 E3);have hst:(storeCells ⟨G.β L i,off,none⟩ news).run P w= .ok () w':=hrun;have hmin:Nat.min ys.length len=ys.length:=Gb hg2;simp only[execOp,ho,resolve,hc,hargs,htys,dc,eW,df,invoke,builtin,sd,dQ,iC];have hcp:(Builtin.copy_ #[t,t2] o.type #[a.eval x,a.eval y]).run P w= .ok (.int .i64 (ys.length:Int)) w':=by simp[Builtin.copy_,c8 hu,hvx,hlen,hmin,fB hsz,hfirst,hst,goInt]
 rw[hcp];rfl
def VO {x y:Operand}{c:Call}{t:TypeId}{ts:List TypeId}(ho:o.op= .call c)(hc:c.callee= .builtin .append)(hx:c.args.toList=[x,y])(ht:c.argTypes.toList=t::ts)(R:Rel G L s μ a.tmps w)(hd: ∀d,o.dst=some d->d<a.tmps.size)
 (hk:KOK L G w s μ a o.dst k r K) (hts:ts.length<=1) (hop:mF P h t ts.head? (evA h s.fr x) (evA h s.fr y) (bw h.take s) μ k=some r):o.wp P a w K Q:=by
 obtain⟨R1,E1,hO⟩:=fa R h.take;have hl:=ci h.take s;unfold mF at hop;split at hop<;>try(simp at hop;done)
 rename_i e hu;obtain⟨sz,hsz,hop1⟩:=bz.1 hop;obtain⟨hby,hop2⟩:=bM.1 hop1;obtain⟨zc,hz,hop3⟩:=bz.1 hop2;obtain⟨hzl,hop4⟩:=bM.1 hop3;clear hop hop1 hop2 hop3;have hzl:=eC hzl;cases hth:ts.head? with
 |none=>rw[hth]at hop4;simp at hop4|some xt=>
  rw[hth]at hop4;have htl:ts=[xt]:=by
   cases ts with
   |nil=>simp at hth|cons q ts=>
    simp only[List.head?_cons,bJ]at hth;subst hth;cases ts with|nil=>rfl|cons=>simp at hts
  subst htl;have hargs:c.args= #[x,y]:=by cases ha:c.args;simp_all
  have htys:c.argTypes= #[t,xt]:=by cases ha:c.argTypes;simp_all
  obtain⟨i,hi,his⟩:=Ex hsz;obtain⟨hb2,hb1⟩:=IM hi hby
  obtain⟨z,i',hi',hiz,hzr,hzv⟩:=lE (P:=P) (G:=G) (w:=w) hz;rw[hi]at hi';injection hi' with hi';subst hi';have hzs:z.cells.size=i.size:=by have:=VRL_len hzv;simp at this;omega
  cases hw:h.own with
  |true=>
   simp only[hw]at hop4;obtain⟨xs,hxs,hop⟩:=bz.1 hop4;clear hop4;split at hop<;>try(simp at hop;done)
   rename_i e' hux;obtain⟨ys,hys,hop⟩:=bz.1 hop;obtain⟨vs,hvs,hop⟩:=bz.1 hop;obtain⟨hg,hop⟩:=bM.1 hop;simp only[cM,small,dn]at hg;obtain⟨hg1,hg2⟩:=hg;have hg1:=eC hg1;have h1:i.size=1:=bu;obtain⟨hys2,hys3⟩:=Ht hvs;have hv:=i7 hys (cI R h y).1;have hcl: ∀x∈ys,x.cells.length=i.size:=λx hx=>by rw[hys2]at hx;obtain⟨y,_,rfl⟩:=nv.1 hx;exact h1.symm
   obtain⟨news,hA,hn⟩:=Do (P:=P) (t:=t) (e:=e) hux hv hcl;have hnv:news=vs:=by
    have hvv: ∀(l m:List Value),VRL G w (l.map CV.v) m->m=l:=λl=>by
     induction l with
     |nil=>intro m hm;simpa[VRL]using hm|cons x l ih=>intro m hm;simp only[dQ,VRL,VR]at hm;obtain⟨v,r,rfl,rfl,h2⟩:=hm;rw[ih r h2]
    have hfm: ∀l:List Value,(l.map CV.v).flatMap CV.cells=l.map CV.v:=λl=>by
     induction l with|nil=>rfl|cons x l ih=>simp only[dQ,tu,ih,CV.cells];rfl
    rw[hys2,hfm]at hn;exact hvv vs news hn
   subst hnv;obtain⟨hou,how⟩:=DL hxs (cI R h x).1;simp only[LVR]at hou;have hown: ∀b,bZ (.ost xs) (a.eval x) b->(∀l,¬bF G w (bw h.take s).fr a.tmps (μ++[(bw h.take s).lam]) l b)/\(∀lev i,b6 (bP (μ++[(bw h.take s).lam]) lev i)->G.β lev i≠b)/\(bH G w s μ a.tmps b\/w.heap.size<=b):=by
    intro b hb;obtain⟨tt,htt,hot⟩:=(cI R h x).2 b (how b hb);refine⟨λl hl'=> ?_,λlev i hlv=> ?_,.inl (.inl ⟨.fr tt,hot⟩)⟩
    ·obtain⟨a1,a2⟩:=hO l b hl';exact a1 tt htt (R.own l (.fr tt) b a2 hot)
    ·rw[hl.1]at hlv;exact R.apart (.fr tt) b lev i hot hlv
   obtain⟨cv,w',G',hrun,R2,E2⟩:=SB (P:=P) (o:=o) (ty:=o.type) R1 E1 hd hu hi hiz hzs h1 hb2 hA hys3 hg2 hou hown;refine ez ?_ (hk _ _ _ _ w' G' hop R2 E2);simp only[execOp,ho,resolve,hc,hargs,htys,dc,eW,df,invoke,builtin,sd,dQ,iC];rw[hrun];rfl
  |false=>
  simp only[hw]at hop4;obtain⟨xs,hxs,hop⟩:=bz.1 hop4;clear hop4;obtain⟨hou,how⟩:=mM hxs (cI R h x).1;have hown: ∀b,bZ (.osl xs) (a.eval x) b->(∀l,¬bF G w (bw h.take s).fr a.tmps (μ++[(bw h.take s).lam]) l b)/\(∀lev i,b6 (bP (μ++[(bw h.take s).lam]) lev i)->G.β lev i≠b)/\(bH G w s μ a.tmps b\/w.heap.size<=b):=by
   intro b hb;obtain⟨tt,htt,hot⟩:=(cI R h x).2 b (how b hb);refine⟨λl hl'=> ?_,λlev i hlv=> ?_,.inl (.inl ⟨.fr tt,hot⟩)⟩
   ·obtain⟨a1,a2⟩:=hO l b hl';exact a1 tt htt (R.own l (.fr tt) b a2 hot)
   ·rw[hl.1]at hlv;exact R.apart (.fr tt) b lev i hot hlv
  have fin: ∀{ys:List CV} {m:Nat} {news:List Value},Appends P w xt (a.eval y) i.size m news->VRL G w (ys.flatMap CV.cells) news->ys.length=m->(∀x∈xs,x.cells.length=i.size/\iH x=true)->(∀x∈ys,x.cells.length=i.size/\iH x=true)->
   xs.length+ys.length<=1099511627776->(Nat.beq e 5||gw ys)=true->k (.osl (xs++ys)) (bw h.take s) μ=some r->o.wp P a w K Q:=by
   intro ys m news hA hyv hym hxa hya hsm hbt hkr;obtain⟨cv,w',G',hrun,R2,E2⟩:=Lq (P:=P) (o:=o) (ty:=o.type) R1 E1 hd hu hi hiz hzs hb1 hb2 hA hyv hym hxa hya hsm hbt hou hown;refine ez ?_ (hk _ _ _ _ w' G' hkr R2 E2);simp only[execOp,ho,resolve,hc,hargs,htys,dc,eW,df,invoke,builtin,sd,dQ,iC];rw[hrun];rfl
  split at hop
  ·rename_i hux;obtain⟨l,hl2,hop⟩:=bz.1 hop;obtain⟨hg,hop⟩:=bM.1 hop;simp only[cM]at hg;obtain⟨hg0,⟨hg1,hg2⟩,hg3⟩:=hg;have hg1:=eC hg1;simp only[small,dn]at hg2;have hyv:=eA R (jM hl2);simp only[VR]at hyv;obtain⟨news,hA,hn⟩:=Lr (P:=P) (G:=G) (w:=w) (l:=l) hux;have h1:i.size=1:=bu;rw[<-hyv,<-h1]at hA;refine fin hA hn bG ?_ (λx hx=> ?_) (by simpa using hg2) (by rw[hg0];rfl) hop
   ·rw[h1];exact lJ hg3
   ·obtain⟨b,_,rfl⟩:=nv.1 hx;exact⟨h1.symm,rfl⟩
  ·rename_i e' hux;obtain⟨ys,hys,hop⟩:=bz.1 hop;obtain⟨hg,hop⟩:=bM.1 hop;simp only[ef,cM]at hg;obtain⟨hg0,⟨hg1,hg2⟩,hg3⟩:=hg;simp only[small,dn]at hg1;have hv:=i7 hys (cI R h y).1;obtain⟨news,hA,hn⟩:=Do (P:=P) (t:=t) (e:=e) hux hv (λx hx=>((lJ hg3) x hx).1);rw[<-his]at hA hg2 hg3;exact fin hA hn rfl (lJ hg2) (lJ hg3) hg1 hg0 hop
  ·simp at hop
end
def ck (args:List LV):S:=⟨gJ (n6 0 args),[],false⟩
def Gh.withO (G:Gh)(O':Nat->Nat):Gh:={G with O:=O'}
def jE (L:Nat)(T:Nat->Prop)(G:Gh)(w:World):Out->Ending->World->Prop
 | .ret v μ',.returned cv,w'=> ∃O',Rel (G.withO O') L (ck [v]) μ' #[cv] w'/\Ext L T G w (G.withO O') w' (bH (G.withO O') w' (ck [v]) μ' #[cv])| .panic v μ',.panicked ch,w'=> ∃O' pv,ch=[{v:=pv,recovered:=false}]/\VR (G.withO O') w' v pv/\Rel (G.withO O') L (ck []) μ' #[] w'/\
  Ext L T G w (G.withO O') w' (bH (G.withO O') w' (ck []) μ' #[])
 |_,_,_=>False
def Kn (W0 w:World)(T:Nat->Prop):Prop:=W0.heap.size<=w.heap.size/\ ∀b,b<W0.heap.size->w.heap[b]? =W0.heap[b]? /\ ¬T b
def Kn.ext {W0 w w':World}{T T':Nat->Prop}{L:Nat}{G G':Gh}(h:Kn W0 w T)(E:Ext L T G w G' w' T'):Kn W0 w' T':=by
 refine⟨j5 h.1 E.size,λb hb=> ?_⟩;obtain⟨h1,h2⟩:=h.2 b hb;have hlt:b<w.heap.size:=tq hb h.1;refine⟨(E.keep b hlt h2).1.trans h1,λht=> ?_⟩;rcases E.grow b ht with h3|h3
 ·exact h2 h3
 ·omega
def Kn.mono {W0 w:World}{T T':Nat->Prop}(h:Kn W0 w T)(hT: ∀b,T' b->T b):Kn W0 w T':=⟨h.1,λb hb=>⟨(h.2 b hb).1,λht=>(h.2 b hb).2 (hT b ht)⟩⟩
def fk (P:Program)(W0:World)(f:FuncId)(args:List LV)(μ:Mu)(out:Out):Prop:=
 (∃fn c,P.funcs[f]? =some fn/\fn.body=some c/\(fn.name == "runtime.NumGoroutine")=false)/\
 ∀(G:Gh) (w:World) (cargs:Array Value),cargs.size=args.length->Rel G μ.length (ck args) μ cargs w->Kn W0 w (bH G w (ck args) μ cargs)->
  Calls P f cargs w (jE μ.length (bH G w (ck args) μ cargs) G w out)
section
variable {G:Gh}{w w':World}{L:Nat}{μ μ':Mu}
def pO {lev i:Nat}(h:b6 (bP (μ++[[]]) lev i)):lev<μ.length/\bP (μ++[[]]) lev i=b7 μ lev i:=by
 rcases q8 lev μ.length with h1|h1|h1
 ·exact⟨h1,cS h1⟩
 ·subst h1;simp only[bP,cV,bQ]at h;simp[b6]at h
 ·simp only[bP,mW h1]at h;exact h.elim
def i8 {fr:Fr}{tm:Array Value}{H:Mu}{lev i k b:Nat}(h:bF G w fr tm H (.ob lev i k) b):b6 (bP H lev i):=by
 simp only[bF]at h;split at h
 ·rename_i cs hcs;rw[hcs];trivial
 simp_all
def ja {G':Gh}{fr fr':Fr}{tm tm':Array Value}{H H':Mu}{lev i k b:Nat}(ho:bP H' lev i=bP H lev i)(hβ:G'.β lev i=G.β lev i)(hb:w'.heap[G.β lev i]? =w.heap[G.β lev i]?)
 (h:bF G' w' fr' tm' H' (.ob lev i k) b):bF G w fr tm H (.ob lev i k) b:=by
 simp only[bF,ho,hβ,hb]at h |-;exact h
def Rel.mergeU {s sr:S}{tm tmr:Array Value}{T:Nat->Prop}{O':Nat->Nat}(R:Rel G L s μ tm w)(hp:s.pushed=false)
 (hT: ∀b,T b->(∀t,¬bZ (s.fr t) (tm.getD t undef) b)/\(∀i k,¬bF G w s.fr tm (μ++[s.lam]) (.ob L i k) b)/\ ∀i,b6 (bQ s.lam i)->G.β L i≠b)
 (hlam:sr.lam=[]) (Rc:Rel (G.withO O') L sr μ' tmr w') (E:Ext L T G w (G.withO O') w' (bH (G.withO O') w' sr μ' tmr)):
 Rel (G.withO O') L s μ' tm w'/\
 (∀l b,bF (G.withO O') w' s.fr tm (μ'++[s.lam]) l b->(b<w.heap.size/\ ¬T b/\bF G w s.fr tm (μ++[s.lam]) l b)\/((∃lev i k,l= .ob lev i k)/\bF (G.withO O') w' sr.fr tmr (μ'++[sr.lam]) l b))/\
 (∀lev i,b6 (bP (μ'++[s.lam]) lev i)->(G.β lev i<w.heap.size/\ ¬T (G.β lev i)/\lev=L/\b6 (bP (μ++[s.lam]) lev i))\/b6 (bP (μ'++[sr.lam]) lev i)):=by
 have hμ':=Rc.lev;have hμ:=R.lev;have hkeep: ∀b,b<w.heap.size-> ¬T b->w'.heap[b]? =w.heap[b]? /\(G.withO O').O b=G.O b:=λb hb hn=>E.keep b hb hn;have hfrT: ∀t b,bZ (s.fr t) (tm.getD t undef) b->b<w.heap.size/\ ¬T b:=λt b hb=>⟨R.touch_lt (.inl ⟨.fr t,hb⟩),λh=>(hT b h).1 t hb⟩;have hobT: ∀i k b,bF G w s.fr tm (μ++[s.lam]) (.ob L i k) b->b<w.heap.size/\ ¬T b:=λi k b hb=>⟨R.touch_lt (.inl ⟨_,hb⟩),λh=>(hT b h).2.1 i k hb⟩;have eL: ∀i,bP (μ++[s.lam]) L i=bQ s.lam i:=λi=>by rw[<-hμ];exact cV
 have eL': ∀i,bP (μ'++[s.lam]) L i=bQ s.lam i:=λi=>by rw[<-hμ'];exact cV
 have hβT: ∀i,b6 (bQ s.lam i)->G.β L i<w.heap.size/\ ¬T (G.β L i):=λi hl=>⟨R.touch_lt (.inr ⟨L,i,by rw[eL];exact hl,rfl⟩),λh=>(hT _ h).2.2 i hl rfl⟩;have elt: ∀lev i,lev<L->bP (μ'++[s.lam]) lev i=bP (μ'++[sr.lam]) lev i:=λlev i h=>by rw[bP,bP,cS bu,cS bu]
 have hown: ∀l b,bF (G.withO O') w' s.fr tm (μ'++[s.lam]) l b->(b<w.heap.size/\ ¬T b/\bF G w s.fr tm (μ++[s.lam]) l b)\/((∃lev i k,l= .ob lev i k)/\bF (G.withO O') w' sr.fr tmr (μ'++[sr.lam]) l b):=by
  intro l b h;cases l with
  |fr t=>exact .inl ⟨(hfrT t b h).1,(hfrT t b h).2,h⟩|ob lev i k=>
   have hl:=i8 h;rcases e8 hμ' hl with⟨h1,h2⟩|⟨rfl,h1,h2⟩
   ·exact .inr ⟨⟨_,_,_,rfl⟩,ja (elt lev i h1) rfl rfl h⟩
   ·have hl':b6 (bQ s.lam i):=by rw[<-h2];exact hl
    have h3:bF G w s.fr tm (μ++[s.lam]) (.ob lev i k) b:=ja (fr':=s.fr) (tm':=tm) (by rw[eL,eL']) rfl (hkeep _ (hβT i hl').1 (hβT i hl').2).1 h;exact .inl ⟨(hobT i k b h3).1,(hobT i k b h3).2,h3⟩
 have hlive: ∀lev i,b6 (bP (μ'++[s.lam]) lev i)->(G.β lev i<w.heap.size/\ ¬T (G.β lev i)/\lev=L/\b6 (bP (μ++[s.lam]) lev i))\/b6 (bP (μ'++[sr.lam]) lev i):=by
  intro lev i hl;rcases e8 hμ' hl with⟨h1,h2⟩|⟨rfl,h1,h2⟩
  ·exact .inr (by rw[<-elt lev i h1];exact hl)
  ·have hl':b6 (bQ s.lam i):=by rw[<-h2];exact hl
   exact .inl ⟨(hβT i hl').1,(hβT i hl').2,rfl,by rw[eL];exact hl'⟩
 have hTr: ∀b,bH (G.withO O') w' sr μ' tmr b->T b\/w.heap.size<=b:=E.grow;refine⟨⟨hμ',λt=> ?_,λi=> ?_,Rc.mu,λlev i lev' i' h h' e=> ?_,λl l' b h h'=> ?_,λl b lev i h h' e=> ?_,Rc.nlt,R.nL,R.ngt⟩,hown,hlive⟩
 ·exact fw E.le (cw _) (λ_ _=>⟨rfl,rfl⟩) _ _ (λb hb=>hkeep b (hfrT t b hb).1 (hfrT t b hb).2) (R.fr t)
 ·refine ey E.le (cw _) (λ_ _=>⟨rfl,rfl⟩) (λhl=>hkeep _ (hβT i hl).1 (hβT i hl).2) (λcs j x cur e fz ho hx hb b' hb'=> ?_) (R.lam i);have h3:bF G w s.fr tm (μ++[s.lam]) (.ob L i j) b':=by simp only[bF,eL,ho,hx];exact⟨cur,e,fz,hb,hb'⟩
  exact hkeep b' (hobT i j b' h3).1 (hobT i j b' h3).2
 ·rcases hlive lev i h with⟨h1,h2,rfl,h3⟩|h1<;>rcases hlive lev' i' h' with⟨h1',h2',rfl,h3'⟩|h1'
  ·exact R.inj _ i _ i' h3 h3' e
  ·exfalso;have e':G.β lev i=G.β lev' i':=e;rw[e']at h1 h2;rcases hTr (G.β lev' i') (.inr ⟨lev',i',h1',rfl⟩)with hh|hh
   ·exact h2 hh
   ·omega
  ·exfalso;have e':G.β lev i=G.β lev' i':=e;rw[<-e']at h1' h2';rcases hTr (G.β lev i) (.inr ⟨lev,i,h1,rfl⟩)with hh|hh
   ·exact h2' hh
   ·omega
  ·exact Rc.inj lev i lev' i' h1 h1' e
 ·rcases hown l b h with⟨h1,h2,h3⟩|⟨⟨_,_,_,rfl⟩,h3⟩<;>rcases hown l' b h' with⟨h1',h2',h3'⟩|⟨⟨_,_,_,rfl⟩,h3'⟩
  ·exact R.own l l' b h3 h3'
  ·exfalso;rcases hTr b (.inl ⟨_,h3'⟩)with hh|hh
   ·exact h2 hh
   ·omega
  ·exfalso;rcases hTr b (.inl ⟨_,h3⟩)with hh|hh
   ·exact h2' hh
   ·omega
  ·exact Rc.own _ _ b h3 h3'
 ·have e':G.β lev i=b:=e;rcases hown l b h with⟨h1,h2,h3⟩|⟨⟨_,_,_,rfl⟩,h3⟩<;>rcases hlive lev i h' with⟨h1',h2',rfl,h3'⟩|h3'
  ·exact R.apart l b lev i h3 h3' e'
  ·rcases hTr b (.inr ⟨lev,i,h3',e'⟩)with hh|hh
   ·exact h2 hh
   ·omega
  ·subst e';rcases hTr _ (.inl ⟨_,h3⟩)with hh|hh
   ·exact h2' hh
   ·omega
  ·exact Rc.apart _ b lev i h3 h3' e'
def zw: ∀(args:List LV) (n t:Nat),gJ (n6 n args) t=if n<=t then(args[t-n]?).getD (.cv .undef)else .cv .undef
 |[],n,t=>by simp[n6,gJ]|v::r,n,t=>by
  simp only[n6,gJ];split
  ·simp_all
  ·rename_i h;have hne:t≠n:=λe=>by subst e;simp[pn]at h
   rw[zw r (n+1) t];grind
def eJ (args:List LV)(t:Nat):(ck args).fr t=(args[t]?).getD (.cv .undef):=by simp only[ck,zw,vI,cX,vK]
def KR {nl nl' L':Nat}{x:LV}{v:Value}(hx:mr x=true)(h:LVR G w L nl x v):LVR G w L' nl' x v:=by cases x<;>simp only[mr,eD]at hx<;>simpa[LVR]using h
def Rel.enterU {s:S}{tm cargs:Array Value}{args:List LV}(R:Rel G L s μ tm w)(hp:s.pushed=false)(hv: ∀j x,args[j]? =some x->mr x=true/\LVR G w L s.lam.length x (cargs.getD j undef))
 (ho: ∀j x b,args[j]? =some x->bZ x (cargs.getD j undef) b->(∃t,bZ (s.fr t) (tm.getD t undef) b)/\ ∀j' x',args[j']? =some x'->bZ x' (cargs.getD j' undef) b->j'=j):
 Rel G L (ck args) μ cargs w/\
 (∀l b,bF G w (ck args).fr cargs (μ++[(ck args).lam]) l b->(∃j x,l= .fr j/\args[j]? =some x/\bZ x (cargs.getD j undef) b)\/(∃lev i k,l= .ob lev i k/\lev<L/\bF G w s.fr tm (μ++[s.lam]) l b))/\
 (∀lev i,b6 (bP (μ++[(ck args).lam]) lev i)->lev<L/\b6 (bP (μ++[s.lam]) lev i)):=by
 have hμ:=R.lev;have hlive: ∀lev i,b6 (bP (μ++[(ck args).lam]) lev i)->lev<L/\b6 (bP (μ++[s.lam]) lev i):=by intro lev i h;obtain⟨h1,h2⟩:=pO h;refine⟨bu,?_⟩;have h3:bP (μ++[s.lam]) lev i=b7 μ lev i:=cS h1;rw[h3,<-h2];exact h
 have hown: ∀l b,bF G w (ck args).fr cargs (μ++[(ck args).lam]) l b->(∃j x,l= .fr j/\args[j]? =some x/\bZ x (cargs.getD j undef) b)\/(∃lev i k,l= .ob lev i k/\lev<L/\bF G w s.fr tm (μ++[s.lam]) l b):=by
  intro l b h;cases l with
  |fr t=>
   simp only[bF,eJ]at h;cases hx:args[t]? with|none=>rw[hx]at h;simp[bZ]at h|some x=>rw[hx]at h;exact .inl ⟨t,x,rfl,hx,h⟩
  |ob lev i k=>have hl:=i8 h;obtain⟨h1,h2⟩:=pO hl;refine .inr ⟨lev,i,k,rfl,bu,ja (fr':=(ck args).fr) (tm':=cargs) ?_ rfl rfl h⟩;rw[show bP (μ++[(ck args).lam]) lev i=b7 μ lev i from h2];exact(cS h1).symm
 refine⟨⟨hμ,λt=> ?_,λi=> ?_,R.mu,λlev i lev' i' h h' e=>R.inj lev i lev' i' (hlive lev i h).2 (hlive lev' i' h').2 e,λl l' b h h'=> ?_,λl b lev i h h' e=> ?_,R.nlt,?_,R.ngt⟩,hown,hlive⟩
 ·rw[eJ];cases hx:args[t]? with|none=>simp[LVR,VR]|some x=>exact KR (hv t x hx).1 (hv t x hx).2
 ·have:bQ (ck args).lam i= .dead:=by simp[ck,bQ]
  rw[this];trivial
 ·rcases hown l b h with⟨j,x,rfl,hx,hox⟩|⟨lev,i,k,rfl,hlt,h1⟩<;>rcases hown l' b h' with⟨j',x',rfl,hx',hox'⟩|⟨lev',i',k',rfl,hlt',h1'⟩
  ·rw[(ho j x b hx hox).2 j' x' hx' hox']
  ·obtain⟨t,ht⟩:=(ho j x b hx hox).1;exact absurd (R.own (.fr t) _ b ht h1') bG
  ·obtain⟨t,ht⟩:=(ho j' x' b hx' hox').1;exact absurd (R.own (.fr t) _ b ht h1) bG
  ·exact R.own _ _ b h1 h1'
 ·rcases hown l b h with⟨j,x,rfl,hx,hox⟩|⟨lev',i',k,rfl,hlt,h1⟩
  ·obtain⟨t,ht⟩:=(ho j x b hx hox).1;exact R.apart (.fr t) b lev i ht (hlive lev i h').2 e
  ·exact R.apart _ b lev i h1 (hlive lev i h').2 e
 ·have:=R.nL;rw[hp]at this;simpa[ck]using this
end
section
variable {P:Program}{W0:World}{ρ:Rho}{α:Type}{L:Nat}{G:Gh}{w:World}{s:S}{μ:Mu}{a:Act}{o:Oper}{h:OpHint}{k:LV->S->Mu->Option α}{p:CV->S->Mu->Option α}{r:α}{K:Act->World->Prop}{Q:Exit->Act->World->Prop}
def GH {h:OpHint}{x:Operand}{b:Nat}(ho:bZ (evA h s.fr x) (a.eval x) b): ∃t,x= .tmp t/\t∈h.take/\bZ (s.fr t) (a.tmps.getD t undef) b:=by
 cases x with
 |tmp t=>
  simp only[evA,Act.eval]at ho;cases ht:iV h.take t with|true=>rw[ht]at ho;exact⟨t,rfl,fR.1 ht,ho⟩|false=>rw[ht]at ho;exact absurd ho mB
 |const c=>exact absurd ho Df|global g=>simp[evA,bZ]at ho|func f=>simp[evA,bZ]at ho
def CJ: ∀{l:List Operand} {t j:Nat},l[j]? =some (.tmp t)->CI t l=true
 |[],t,j,h=>by simp at h|x::r,t,0,h=>by simp only[eu,bJ]at h;subst h;simp[CI,pn]|x::r,t,j+1,h=>by have ih:=CJ (l:=r) (t:=t) (j:=j) (by simpa using h);cases x<;>simp only[CI,ih];split<;>rfl
def pG {x:Operand}{r:List Operand}(h:jL (x::r)=true):jL r=true/\ ∀t,x= .tmp t->CI t r=false:=by
 cases x<;>simp only[jL]at h
 ·grind
 all_goals exact⟨h,λt e=>by cases e⟩
def xE: ∀{l:List Operand},jL l=true-> ∀{t j j':Nat},l[j]? =some (.tmp t)->l[j']? =some (.tmp t)->j=j'
 |[],_,t,j,j',h,_=>by simp at h|x::r,hd,t,0,0,_,_=>rfl|x::r,hd,t,0,j'+1,h,h'=>by simp only[eu,bJ]at h;have:=CJ (l:=r) (t:=t) (j:=j') (by simpa using h');rw[(pG hd).2 t h]at this;cases this|x::r,hd,t,j+1,0,h,h'=>by simp only[eu,bJ]at h';have:=CJ (l:=r) (t:=t) (j:=j) (by simpa using h);rw[(pG hd).2 t h']at this;cases this|x::r,hd,t,j+1,j'+1,h,h'=>by have:=xE (pG hd).1 (t:=t) (j:=j) (j':=j') (by simpa using h) (by simpa using h');omega
def xJ: ∀{l:List LV},jV l=true-> ∀{j:Nat} {x:LV},l[j]? =some x->mr x=true
 |[],_,j,x,h=>by simp at h|y::r,hp,j,x,h=>by
  simp only[jV]at hp;split at hp<;>try(simp at hp;done)
  cases j with|zero=>simp only[eu,bJ]at h;subst h;assumption|succ j=>exact xJ hp (by simpa using h)
def Calls.mono {f:FuncId}{args:Array Value}{R R':Ending->World->Prop}(h:Calls P f args w R)(hR: ∀e w',R e w'->R' e w'):Calls P f args w R':=by intro cs;obtain⟨e,w',fr,h1,h2⟩:=h cs;grind
structure ArgsR (G:Gh) (w:World) (L:Nat) (s:S) (tm:Array Value) (ts:List Nat) (args:List LV) (cargs:Array Value):Prop where
 size:cargs.size=args.length
 val: ∀j x,args[j]? =some x->LVR G w L s.lam.length x (cargs.getD j undef)
 own: ∀j x b,args[j]? =some x->bZ x (cargs.getD j undef) b->(∃t,t∈ts/\bZ (s.fr t) (tm.getD t undef) b)/\ ∀j' x',args[j']? =some x'->bZ x' (cargs.getD j' undef) b->j'=j
def VJ (R:Rel G L s μ a.tmps w){h:OpHint}{l:List Operand}(hd:jL l=true){caps:List LV}{vs:List Value}(hc:dV G w L s.lam.length caps vs):
 ArgsR G w L s a.tmps h.take (l.map (evA h s.fr)++caps) (l.map a.eval++vs).toArray:=by
 obtain⟨hcl,hcg⟩:=vV hc;have hgl: ∀j x,(l.map (evA h s.fr)++caps)[j]? =some x->(j<l.length/\ ∃y,l[j]? =some y/\x=evA h s.fr y/\(l.map a.eval++vs).toArray.getD j undef=a.eval y)\/
  (LVR G w L s.lam.length x ((l.map a.eval++vs).toArray.getD j undef)/\tX x=false):=by
  intro j x hx;by_cases hj:j<l.length
  ·left;rw[fN (by simpa using hj)]at hx;simp only[fP,pi]at hx;obtain⟨y,hy,rfl⟩:=hx;refine⟨hj,y,hy,rfl,?_⟩;simp only[d7,F8];rw[fN (by simpa using hj)];simp[hy]
  ·right;rw[ju cr]at hx;obtain⟨v,hv,h1,h2⟩:=hcg _ x hx;refine⟨?_,h2⟩;simp only[d7,F8];rw[ju cr];simp only[pj]at hv |-;rw[hv];exact h1
 refine⟨by simp[hcl],λj x hx=> ?_,λj x b hx ho=> ?_⟩
 ·rcases hgl j x hx with⟨_,y,_,rfl,e⟩|⟨h1,_⟩
  ·rw[e];exact(cI R h y).1
  ·exact h1
 ·rcases hgl j x hx with⟨_,y,hy,rfl,e⟩|⟨_,h2⟩
  ·rw[e]at ho;obtain⟨t,rfl,ht,hot⟩:=GH (a:=a) ho;refine⟨⟨t,ht,hot⟩,λj' x' hx' ho'=> ?_⟩;rcases hgl j' x' hx' with⟨_,y',hy',rfl,e'⟩|⟨_,h2⟩
   ·rw[e']at ho';obtain⟨t',rfl,ht',hot'⟩:=GH (a:=a) ho';have:=R.own (.fr t) (.fr t') b hot hot';injection this with this;subst this;exact xE hd hy' hy
   ·exact absurd ho' (sw h2)
  ·exact absurd ho (sw h2)
def VQ {f:FuncId}{args:List LV}{cargs:Array Value}(R:Rel G L s μ a.tmps w)(hd: ∀d,o.dst=some d->d<a.tmps.size)(hk:KOK L G w s μ a o.dst k r K)(hpk:POK L G w s μ a p r Q)
 (hrho: ∀f args μ out,ρ.call f args μ=some out->fk P W0 f args μ out) (hkn:Kn W0 w (bH G w s μ a.tmps)) (hp:s.pushed=false) (hpl:jV args=true) (A:ArgsR G w L s a.tmps h.take args cargs)
 (hrun:(∃fn c,P.funcs[f]? =some fn/\fn.body=some c/\(fn.name == "runtime.NumGoroutine")=false)->(execOp a.eval o).run P w= .ok (.enter f cargs) w)
 (hop:callK (ρ.call f args μ) (λv μ=>eP P h.own o.type v λv=>k v (bw h.take s) μ) (λv μ=>p v (bw h.take s) μ)=some r):o.wp P a w K Q:=by
 obtain⟨out,hout,hop⟩:=bz.1 hop;obtain⟨hfn,hM⟩:=hrho _ _ _ _ hout;have hμ:=R.lev;obtain⟨R1,E1,hO⟩:=fa R h.take;have hl:=ci h.take s;obtain⟨Re,hown,hlive⟩:=R.enterU (tm:=a.tmps) (args:=args) (cargs:=cargs) hp (λj x hx=>⟨xJ hpl hx,A.val j x hx⟩) (λj x b hx ho=>⟨(A.own j x b hx ho).1.imp λt h=>h.2,(A.own j x b hx ho).2⟩);have hT: ∀b,bH G w (ck args) μ cargs b->(∀t,¬bZ ((bw h.take s).fr t) (a.tmps.getD t undef) b)/\(∀i k,¬bF G w (bw h.take s).fr a.tmps (μ++[(bw h.take s).lam]) (.ob L i k) b)/\ ∀i,b6 (bQ (bw h.take s).lam i)->G.β L i≠b:=by
  have eL: ∀i,bP (μ++[s.lam]) L i=bQ s.lam i:=λi=>by rw[<-hμ];exact cV
  rintro b (⟨l,hb⟩|⟨lev,i,hb,rfl⟩)
  ·rcases hown l b hb with⟨j,x,rfl,hx,ho⟩|⟨lev,i,k,rfl,hlt,ho⟩
   ·obtain⟨⟨u,hu,hou⟩,_⟩:=A.own j x b hx ho;refine⟨λt ht=> ?_,λi k hik=> ?_,λi hi=> ?_⟩
    ·obtain⟨a1,a2⟩:=hO (.fr t) b ht;exact a1 u hu (R.own _ (.fr u) b a2 hou)
    ·obtain⟨a1,a2⟩:=hO _ b hik;exact a1 u hu (R.own _ (.fr u) b a2 hou)
    ·rw[hl.1]at hi;exact R.apart (.fr u) b L i hou (by rw[eL];exact hi)
   ·refine⟨λt ht=> ?_,λi' k' hik=> ?_,λi' hi=> ?_⟩
    ·have:=R.own _ _ b (hO (.fr t) b ht).2 ho;cases this
    ·have:=R.own _ _ b (hO _ b hik).2 ho;injection this with h1 h2 h3;omega
    ·rw[hl.1]at hi;exact R.apart _ b L i' ho (by rw[eL];exact hi)
  ·obtain⟨hlt,hl2⟩:=hlive lev i hb;refine⟨λt ht=>R.apart _ _ lev i (hO (.fr t) _ ht).2 hl2 rfl,λi' k' hik=>R.apart _ _ lev i (hO _ _ hik).2 hl2 rfl,λi' hi e=> ?_⟩;rw[hl.1]at hi;have:=(R.inj L i' lev i (by rw[eL];exact hi) hl2 e).1;omega
 have hT0: ∀b,bH G w (ck args) μ cargs b->bH G w s μ a.tmps b:=by
  rintro b (⟨l,hb⟩|⟨lev,i,hb,rfl⟩)
  ·rcases hown l b hb with⟨j,x,rfl,hx,ho⟩|⟨lev,i,k,rfl,hlt,ho⟩
   ·obtain⟨⟨u,hu,hou⟩,_⟩:=A.own j x b hx ho;exact .inl ⟨.fr u,hou⟩
   ·exact .inl ⟨_,ho⟩
  ·exact .inr ⟨lev,i,(hlive lev i hb).2,rfl⟩
 have hcall:=hM G w cargs A.size (by rw[hμ];exact Re) (hkn.mono hT0);rw[hμ]at hcall;unfold Oper.wp;rw[hrun hfn,Oper.upon_enter];refine hcall.mono λe w' hR=> ?_;have merge: ∀{O':Nat->Nat} {sr:S} {μ':Mu} {tmr:Array Value},sr.lam=[]->Rel (G.withO O') L sr μ' tmr w'->Ext L (bH G w (ck args) μ cargs) G w (G.withO O') w' (bH (G.withO O') w' sr μ' tmr)->
  Rel (G.withO O') L (bw h.take s) μ' a.tmps w'/\Ext L (bH G w s μ a.tmps) G w (G.withO O') w' (bH (G.withO O') w' (bw h.take s) μ' a.tmps)/\
  (∀b,bH (G.withO O') w' sr μ' tmr b->(bH G w s μ a.tmps b\/w.heap.size<=b))/\
  (∀ t b, bF (G.withO O') w' sr.fr tmr (μ' ++ [sr.lam]) (.fr t) b -> (∀ l, ¬ bF (G.withO O') w' (bw h.take s).fr a.tmps (μ' ++ [(bw h.take s).lam]) l b) /\
   ∀lev i,b6 (bP (μ'++[(bw h.take s).lam]) lev i)->(G.withO O').β lev i≠b):=by
  intro O' sr μ' tmr hlam Rc E;obtain⟨R2,h2,h3⟩:=R1.mergeU (by rw[hl.2];exact hp) hT hlam Rc E;have hin: ∀b,bH (G.withO O') w' sr μ' tmr b->(bH G w s μ a.tmps b\/w.heap.size<=b):=λb hb=>(E.grow b hb).imp (hT0 b) id;refine⟨R2,⟨E.le,E.os,E.tape,E.output,E.size,λb hb hn=>E.keep b hb λhh=>hn (hT0 b hh),λb hb=> ?_,E.lev⟩,hin,λt b hb=>⟨λl hl'=> ?_,λlev i hli e=> ?_⟩⟩
  ·rcases hb with⟨l,hb⟩|⟨lev,i,hb,rfl⟩
   ·rcases h2 l b hb with⟨_,_,h4⟩|⟨_,h4⟩
    ·exact .inl (.inl ⟨l,(hO l b h4).2⟩)
    ·exact hin b (.inl ⟨l,h4⟩)
   ·rcases h3 lev i hb with⟨_,_,_,h4⟩|h4
    ·rw[hl.1]at h4;exact .inl (.inr ⟨lev,i,h4,rfl⟩)
    ·exact hin _ (.inr ⟨lev,i,h4,rfl⟩)
  ·rcases h2 l b hl' with⟨h4,h5,_⟩|⟨⟨_,_,_,rfl⟩,h4⟩
   ·rcases E.grow b (.inl ⟨_,hb⟩)with hh|hh
    ·exact h5 hh
    ·omega
   ·have:=Rc.own _ _ b hb h4;cases this
  ·rcases h3 lev i hli with⟨h4,h5,_,_⟩|h4
   ·have e':G.β lev i=b:=e;rw[e']at h4 h5;rcases E.grow b (.inl ⟨_,hb⟩)with hh|hh
    ·exact h5 hh
    ·omega
   ·exact Rc.apart _ b lev i hb h4 e
 cases out with
 |ret v μ'=>
  cases e with
  |returned cv=>
   simp only[jE]at hR;obtain⟨O',Rc,E⟩:=hR;obtain⟨R2,E2,hin,hfr⟩:=merge rfl Rc E;obtain⟨y,hy,hyr⟩:=jr hop;have hv:LVR (G.withO O') w' L 0 v cv:=by have:=Rc.fr 0;simp only[eJ,eu,gB]at this;simpa[ck]using this
   have hv2:LVR (G.withO O') w' L (bw h.take s).lam.length v cv:=fw (Le.refl _ _) (vI _) (λ_ _=>⟨rfl,rfl⟩) v cv (λ_ _=>⟨rfl,rfl⟩) hv;obtain⟨hy1,hy2⟩:=hyr (G.withO O') w' L _ cv hv2
   obtain ⟨R3, E3⟩ := ex (dst := o.dst) (v := y) (cv := cv) R2 E2 hy1 (λb hb => by
    have hat:bF (G.withO O') w' (ck [v]).fr #[cv] (μ'++[(ck [v]).lam]) (.fr 0) b:=by have:=hy2 b hb;simpa[bF,eJ]using this
    exact⟨(hfr 0 b hat).1,(hfr 0 b hat).2,hin b (.inl ⟨_,hat⟩)⟩) hd
   exact hk y _ μ' cv w' _ hy R3 E3
  |panicked ch=>simp[jE]at hR|outgrown=>simp[jE]at hR
 |panic v μ'=>
  cases e with
  |returned cv=>simp[jE]at hR|panicked ch=>simp only[jE]at hR;obtain⟨O',pv,rfl,hv,Rc,E⟩:=hR;obtain⟨R2,E2,_,_⟩:=merge rfl Rc E;exact hpk v _ μ' pv w' _ hop R2 hv E2
  |outgrown=>simp[jE]at hR
end
def Gh.push (G:Gh)(L n:Nat):Gh:={G with n:=λx=>if x=L then n else G.n x}
section
variable {G G3:Gh}{w w':World}{L:Nat}{μ μ':Mu}
def xO {nl:Nat}{x:LV}{v:Value}{c:CV}(hle:Le G w G3 w)(hβ: ∀i,i<nl->i<G3.n L/\G3.β L i=G.β L i/\G3.sz L i=G.sz L i)(h:LVR G w L nl x v)(hc:qX L x=some c):VR G3 w c v:=by
 cases x<;>simp only[qX,bJ,reduceCtorEq]at hc<;>subst hc<;>simp only[LVR]at h
 ·exact cZ hle _ _ h
 ·exact cZ hle _ _ (kZ h)
 ·simp only[VR];simp_all
 ·simp only[VR];obtain⟨h1,cap,cur,e,fz,h2,h3,_,h4,h5⟩:=h;simp_all
 ·simp only[VR];simp_all
 ·simp only[VR];simp_all
def vu {nl:Nat}: ∀{xs:List LV} {vs:List Value} {cs:List CV} (hle:Le G w G3 w) (hβ: ∀i,i<nl->i<G3.n L/\G3.β L i=G.β L i/\G3.sz L i=G.sz L i) (h:dV G w L nl xs vs) (hc:ph L xs=some cs),VRL G3 w cs vs
 |[],vs,cs,hle,hβ,h,hc=>by simp only[ph,bJ]at hc;subst hc;simp only[dV]at h;simpa[VRL]using h|x::xs,vs,cs,hle,hβ,h,hc=>by simp only[ph]at hc;obtain⟨c,h1,hc⟩:=bz.1 hc;obtain⟨r,h2,hc⟩:=bz.1 hc;simp only[bJ]at hc;subst hc;simp only[dV]at h;obtain⟨v,vr,e,_,h3,h4⟩:=h;simp only[VRL];exact⟨v,vr,e,xO hle hβ h3 h1,vu hle hβ h4 h2⟩
def qn {nl L' nl':Nat}{x y:LV}{v:Value}(hle:Le G w G3 w)(hO:G3.O=G.O)(hβ: ∀i,i<nl->i<G3.n L/\G3.β L i=G.β L i/\G3.sz L i=G.sz L i)(h:LVR G w L nl x v)(hy:AP L x=some y):
 LVR G3 w L' nl' y v/\ ∀b,bZ y v b↔bZ x v b:=by
 unfold AP at hy;split at hy
 ·simp only[bJ]at hy;subst hy;exact⟨by simp only[LVR]at h |-; exact oy hle (λ_ _ _ _=>⟨rfl,by rw[hO]⟩) h,λb=>ov⟩
 ·obtain⟨cs,h1,hy⟩:=bz.1 hy;simp only[bJ]at hy;subst hy;simp only[LVR,VR]at h |-;obtain⟨vs,e,hl⟩:=h;exact⟨⟨vs,e,vu hle hβ hl h1⟩,λb=>by simp[bZ]⟩
 ·obtain⟨c,h1,hy⟩:=bz.1 hy;simp only[bJ]at hy;subst hy;refine⟨by simp only[LVR];exact xO hle hβ h h1,λb=> ?_⟩;rename_i n1 n2;cases x<;>first|exact(n1 _ rfl).elim|(simp[qX]at h1;done)|simp[bZ]
def kJ: ∀{xs ys:List LV},ke L xs=some ys->ys.length=xs.length/\ ∀(j:Nat) y,ys[j]? =some y-> ∃x,xs[j]? =some x/\AP L x=some y
 |[],ys,h=>by simp only[ke,bJ]at h;subst h;exact⟨rfl,λj y hy=>by simp at hy⟩|x::xs,ys,h=>by simp only[ke]at h;obtain⟨y,h1,h⟩:=bz.1 h;obtain⟨r,h2,h⟩:=bz.1 h;simp only[bJ]at h;subst h;obtain⟨h3,h4⟩:=kJ h2;grind
inductive ObOuter (L:Nat):Ob->Ob->Prop where
 |dead:ObOuter L .dead .dead|arr {sz cs}:ObOuter L (.arr sz cs) (.arr sz cs)|map {ks vs}:ObOuter L (.map ks vs) (.map ks vs)|cells {cs ds}:ke L cs=some ds->ObOuter L (.cells cs) (.cells ds)
def mq: ∀{l l':Lam},gK L l=some l'->l'.length=l.length/\ ∀i,ObOuter L (bQ l i) (bQ l' i)
 |[],l',h=>by simp only[gK,bJ]at h;subst h;exact⟨rfl,λi=>by simp only[bQ,List.getElem?_nil];exact .dead⟩| .dead::l,l',h=>by
  simp only[gK]at h;obtain⟨r,h1,h⟩:=bz.1 h;simp only[bJ]at h;subst h;obtain⟨h2,h3⟩:=mq h1;refine⟨by simp[h2],λi=> ?_⟩;cases i with|zero=>exact .dead|succ i=>exact h3 i
 | .arr sz cs::l,l',h=>by
  simp only[gK]at h;obtain⟨r,h1,h⟩:=bz.1 h;simp only[bJ]at h;subst h;obtain⟨h2,h3⟩:=mq h1;refine⟨by simp[h2],λi=> ?_⟩;cases i with|zero=>exact .arr|succ i=>exact h3 i
 | .map ks vs::l,l',h=>by
  simp only[gK]at h;obtain⟨r,h1,h⟩:=bz.1 h;simp only[bJ]at h;subst h;obtain⟨h2,h3⟩:=mq h1;refine⟨by simp[h2],λi=> ?_⟩;cases i with|zero=>exact .map|succ i=>exact h3 i
 | .cells cs::l,l',h=>by
  simp only[gK]at h;obtain⟨ds,h0,h⟩:=bz.1 h;obtain⟨r,h1,h⟩:=bz.1 h;simp only[bJ]at h;subst h;obtain⟨h2,h3⟩:=mq h1;refine⟨by simp[h2],λi=> ?_⟩;cases i with|zero=>exact .cells h0|succ i=>exact h3 i
def ObOuter.live {o o':Ob}(h:ObOuter L o o'):b6 o'↔b6 o:=by cases h<;>exact ov
def pr {nl:Nat}(hn: ∀i,i<G.n L->i<nl):Le G w (G.push L nl) w:=by refine⟨λ_ _ _ h hb=>⟨h,hb⟩,λlev i h=>⟨?_,rfl,rfl⟩,λ_ _ _ h hc=>⟨h,hc⟩,λb cur e fz h=>⟨cur,fz,h,rfl⟩⟩;simp only[Gh.push];grind
mutual
def B3 {L' nl':Nat}: ∀(x:LV) (v:Value),LVR G w L 0 x v->LVR G w L' nl' x v
 | .cv c,v,h=>by simpa[LVR]using h| .osl xs,v,h=>by simpa[LVR]using h| .ost xs,v,h=>by simpa[LVR]using h| .stl n,v,h=>by simpa[LVR]using h| .loc i off,v,h=>by simp only[LVR]at h;omega| .lsl i off len,v,h=>by simp only[LVR]at h;omega| .mloc i,v,h=>by simp only[LVR]at h;omega| .tloc i t n,v,h=>by simp only[LVR]at h;omega| .lclo f caps,v,h=>by simp only[LVR]at h |-;obtain⟨vs,e,hl⟩:=h;exact⟨vs,e,xU caps _ hl⟩
 | .ltup xs,v,h=>by simp only[LVR]at h |-;obtain⟨vs,e,hl⟩:=h;exact⟨vs,e,xU xs _ hl⟩
def xU {L' nl':Nat}: ∀(xs:List LV) (vs:List Value),dV G w L 0 xs vs->dV G w L' nl' xs vs
 |[],vs,h=>by simpa[dV]using h|x::xs,vs,h=>by simp only[dV]at h |-;obtain⟨v,r,e,h0,h1,h2⟩:=h;exact⟨v,r,e,h0,B3 x v h1,xU xs r h2⟩
end
def Rel.enterP {s:S}{tm cargs:Array Value}{args args':List LV}{l:Lam}{ts:List Nat}(R:Rel G L s μ tm w)(A:ArgsR G w L s tm ts args cargs)(ha:ke L args=some args')(hl:gK L s.lam=some l):
 Rel (G.push L s.lam.length) (L+1) (ck args') (μ++[l]) cargs w/\
 (∀q b,bF (G.push L s.lam.length) w (ck args').fr cargs ((μ++[l])++[(ck args').lam]) q b->(∃j x,q= .fr j/\args[j]? =some x/\bZ x (cargs.getD j undef) b)\/(∃lev i k,q= .ob lev i k/\bF G w s.fr tm (μ++[s.lam]) q b))/\
 (∀lev i,b6 (bP ((μ++[l])++[(ck args').lam]) lev i)->b6 (bP (μ++[s.lam]) lev i)):=by
 have hμ:=R.lev;obtain⟨hll,hlg⟩:=mq hl;obtain⟨hal,hag⟩:=kJ ha;have hnL: ∀i,i<G.n L->i<s.lam.length:=λi hi=>by have:=R.nL;split at this<;>omega
 have hle:Le G w (G.push L s.lam.length) w:=pr hnL;have hleB:Le G w ((G.push L s.lam.length).below L) w:=by
  refine⟨λ_ _ _ h hb=>⟨h,hb⟩,λlev i h=>⟨?_,rfl,rfl⟩,λ_ _ _ h hc=>⟨h,hc⟩,λb cur e fz h=>⟨cur,fz,h,rfl⟩⟩;have hlv:lev<=L:=by
   by_cases hh:lev<=L
   ·exact hh
   ·have:=R.ngt lev bu;omega
  simp only[Gh.below,bK hlv,Gh.push];split
  ·rename_i e;subst e;exact hnL i h
  ·exact h
 have hnB: ∀i,i<s.lam.length->i<(G.push L s.lam.length).n L/\(G.push L s.lam.length).β L i=G.β L i/\(G.push L s.lam.length).sz L i=G.sz L i:=λi hi=>⟨by simp only[Gh.push,cX];exact hi,rfl,rfl⟩;have hnB2: ∀i,i<s.lam.length->i<((G.push L s.lam.length).below L).n L/\((G.push L s.lam.length).below L).β L i=G.β L i/\((G.push L s.lam.length).below L).sz L i=G.sz L i:=λi hi=>⟨by simp only[Gh.below,cw,Gh.push,cX];exact hi,rfl,rfl⟩;have eL: ∀i,bP (μ++[s.lam]) L i=bQ s.lam i:=λi=>by rw[<-hμ];exact cV
 have eL2: ∀i,b7 (μ++[l]) L i=bQ l i:=λi=>by rw[<-hμ];exact cV
 have eO: ∀lev i,b6 (bP ((μ++[l])++[(ck args').lam]) lev i)->(lev<L/\bP ((μ++[l])++[(ck args').lam]) lev i=bP (μ++[s.lam]) lev i)\/(lev=L/\bP ((μ++[l])++[(ck args').lam]) lev i=bQ l i):=by
  intro lev i h;obtain⟨h1,h2⟩:=pO h;simp only[cC,cB,cG]at h1;by_cases hlt:lev<L
  ·refine .inl ⟨hlt,?_⟩;rw[show bP ((μ++[l])++[(ck args').lam]) lev i=b7 (μ++[l]) lev i from h2,cS bu,bP,cS bu]
  ·have:lev=L:=bu;subst this;exact .inr ⟨rfl,by rw[show bP ((μ++[l])++[(ck args').lam]) lev i=b7 (μ++[l]) lev i from h2,eL2]⟩
 have hlive: ∀lev i,b6 (bP ((μ++[l])++[(ck args').lam]) lev i)->b6 (bP (μ++[s.lam]) lev i):=by
  intro lev i h;rcases eO lev i h with⟨_,e⟩|⟨rfl,e⟩
  ·rw[<-e];exact h
  ·rw[eL];rw[e]at h;exact(hlg i).live.1 h
 have hown: ∀q b,bF (G.push L s.lam.length) w (ck args').fr cargs ((μ++[l])++[(ck args').lam]) q b->(∃j x,q= .fr j/\args[j]? =some x/\bZ x (cargs.getD j undef) b)\/(∃lev i k,q= .ob lev i k/\bF G w s.fr tm (μ++[s.lam]) q b):=by
  intro q b h;cases q with
  |fr t=>
   simp only[bF,eJ]at h;cases hx:args'[t]? with
   |none=>rw[hx]at h;simp[bZ]at h|some y=>rw[hx]at h;obtain⟨x,hx2,hxy⟩:=hag t y hx;exact .inl ⟨t,x,rfl,hx2,((qn (L':=L) (nl':=0) hle rfl hnB (A.val t x hx2) hxy).2 b).1 h⟩
  |ob lev i k=>
   have hl':=i8 h;refine .inr ⟨lev,i,k,rfl,?_⟩;rcases eO lev i hl' with⟨_,e⟩|⟨rfl,e⟩
   ·exact ja (fr':=(ck args').fr) (tm':=cargs) e rfl rfl h
   ·simp only[bF,e]at h;split at h<;>try(exact h.elim)
    rename_i ds hds;split at h<;>try(exact h.elim)
    rename_i y hy;obtain⟨cur,e',fz,hb,ho⟩:=h;have hoo:=hlg i;rw[hds]at hoo;generalize hq:bQ s.lam i=q at hoo;cases hoo with
    |cells hto=>rename_i cs;obtain⟨_,hg⟩:=kJ hto;obtain⟨x,hx,hxy⟩:=hg k y hy;have hob:=R.lam i;rw[hq]at hob;simp only[ObR]at hob;obtain⟨cur2,e2,fz2,hb2,_,_,_,hr⟩:=hob;have hb':w.heap[G.β lev i]? =some (.cells cur e' fz):=hb;rw[hb2]at hb';obtain⟨rfl,rfl,rfl⟩:=(j4 ..).mp (gY hb');simp only[bF,eL,hq,hx];exact⟨cur2,e2,fz2,hb2,((qn (L':=lev) (nl':=0) hle rfl hnB (hr k x hx) hxy).2 b).1 ho⟩
 refine⟨⟨by simp[hμ],λt=> ?_,λi=> ?_,λlev i hlt=> ?_,λlev i lev' i' h h' e=>R.inj lev i lev' i' (hlive lev i h) (hlive lev' i' h') e,λq q' b h h'=> ?_,λq b lev i h h' e=> ?_,λlev hlt=> ?_,?_,λlev hlt=> ?_⟩,hown,hlive⟩
 ·rw[eJ];cases hx:args'[t]? with
  |none=>simp[LVR,VR]|some y=>obtain⟨x,hx2,hxy⟩:=hag t y hx;exact(qn hle rfl hnB (A.val t x hx2) hxy).1
 ·have:bQ (ck args').lam i= .dead:=by simp[ck,bQ]
  rw[this];trivial
 ·by_cases h1:lev<L
  ·have e1:b7 (μ++[l]) lev i=b7 μ lev i:=cS bu;rw[e1];have hle2:Le (G.below lev) w ((G.push L s.lam.length).below lev) w:=hle.below lev;exact ey hle2 (cw _) (λ_ h=>by omega) (λ_=>⟨rfl,rfl⟩) (λ_ _ _ _ _ _ _ _ _ _ _=>⟨rfl,rfl⟩) (R.mu lev i h1)
  ·have:lev=L:=bu;subst this;rw[eL2];have hoo:=hlg i;have hob:=R.lam i;revert hob hoo;generalize bQ s.lam i=q;generalize bQ l i=q';intro hoo hob;cases hoo with
   |dead=>trivial|arr=>simp only[ObR]at hob |-;obtain⟨hk,cur,e,fz,h1,h2,h3,h4,h5⟩:=hob;exact⟨hk,cur,e,fz,h1,h2,h3,h4,λj x hx=>cZ hleB x _ (h5 j x hx)⟩
   |map=>simp only[ObR]at hob |-;obtain⟨es,clk,h1,h2,h3⟩:=hob;exact⟨es,clk,h1,h2,qq hleB h3⟩
   |cells hto=>obtain⟨hln,hg⟩:=kJ hto;simp only[ObR]at hob |-;obtain⟨cur,e,fz,h1,h2,h3,h4,h5⟩:=hob;refine⟨cur,e,fz,h1,h2,h3,by rw[hln];exact h4,λj y hy=> ?_⟩;obtain⟨x,hx,hxy⟩:=hg j y hy;exact(qn hleB rfl hnB2 (h5 j x hx) hxy).1
 ·rcases hown q b h with⟨j,x,rfl,hx,hox⟩|⟨lev,i,k,rfl,h1⟩<;>rcases hown q' b h' with⟨j',x',rfl,hx',hox'⟩|⟨lev',i',k',rfl,h1'⟩
  ·rw[(A.own j x b hx hox).2 j' x' hx' hox']
  ·obtain⟨t,_,ht⟩:=(A.own j x b hx hox).1;exact absurd (R.own (.fr t) _ b ht h1') bG
  ·obtain⟨t,_,ht⟩:=(A.own j' x' b hx' hox').1;exact absurd (R.own (.fr t) _ b ht h1) bG
  ·exact R.own _ _ b h1 h1'
 ·rcases hown q b h with⟨j,x,rfl,hx,hox⟩|⟨lev',i',k,rfl,h1⟩
  ·obtain⟨t,_,ht⟩:=(A.own j x b hx hox).1;exact R.apart (.fr t) b lev i ht (hlive lev i h') e
  ·exact R.apart _ b lev i h1 (hlive lev i h') e
 ·by_cases h1:lev<L
  ·have:(G.push L s.lam.length).n lev=G.n lev:=by simp only[Gh.push];rw[bE bu]
   rw[this,R.nlt lev h1];simp only[fp,fN (show lev<μ.length by omega)]
  ·have:lev=L:=bu;subst this;subst hμ;simp[Gh.push,hll]
 ·have h1:=R.ngt (L+1) bu;have:(G.push L s.lam.length).n (L+1)=G.n (L+1):=by simp only[Gh.push];rw[bE bu]
  simp only[ck,eD,dG];rw[this,h1]
 ·have:(G.push L s.lam.length).n lev=G.n lev:=by simp only[Gh.push];rw[bE bu]
  rw[this];exact R.ngt lev bu
def Rel.mergeP {s sr:S}{tm tmr:Array Value}{T:Nat->Prop}{O':Nat->Nat}{l':Lam}(R:Rel G L s μ tm w)
 (hT: ∀b,T b-> ∀t,¬bZ (s.fr t) (tm.getD t undef) b)
 (hlam:sr.lam=[]) (Rc:Rel ((G.push L s.lam.length).withO O') (L+1) sr (μ'++[l']) tmr w') (E:Ext (L+1) T (G.push L s.lam.length) w ((G.push L s.lam.length).withO O') w' (bH ((G.push L s.lam.length).withO O') w' sr (μ'++[l']) tmr)):
 Rel ((G.push L s.lam.length).withO O') L {s with lam:=l',pushed:=true} μ' tm w'/\
 (∀q b,bF ((G.push L s.lam.length).withO O') w' s.fr tm (μ'++[l']) q b->(b<w.heap.size/\ ¬T b/\bF G w s.fr tm (μ++[s.lam]) q b)\/((∃lev i k,q= .ob lev i k)/\bF ((G.push L s.lam.length).withO O') w' sr.fr tmr ((μ'++[l'])++[sr.lam]) q b))/\
 (∀lev i,b6 (bP (μ'++[l']) lev i)->b6 (bP ((μ'++[l'])++[sr.lam]) lev i)):=by
 have hμ':μ'.length=L:=by have:=Rc.lev;simp at this;omega
 have hnL: ∀i,i<G.n L->i<s.lam.length:=λi hi=>by have:=R.nL;split at this<;>omega
 have hle0:Le G w (G.push L s.lam.length) w:=pr hnL;have hle:=hle0.trans E.le;have hlen:s.lam.length=l'.length:=by have:=Rc.nlt L bu;simp only[Gh.withO,Gh.push,cX,fp]at this;rw[ju bu]at this;simpa[hμ']using this
 have hfrT: ∀t b,bZ (s.fr t) (tm.getD t undef) b->b<w.heap.size/\ ¬T b:=λt b hb=>⟨R.touch_lt (.inl ⟨.fr t,hb⟩),λh=>hT b h t hb⟩;have hkeep: ∀b,b<w.heap.size-> ¬T b->w'.heap[b]? =w.heap[b]? /\((G.push L s.lam.length).withO O').O b=G.O b:=λb hb hn=>E.keep b hb hn;have eO: ∀lev i,b6 (bP (μ'++[l']) lev i)->bP ((μ'++[l'])++[sr.lam]) lev i=bP (μ'++[l']) lev i:=by
  intro lev i h;have:lev<(μ'++[l']).length:=by
   by_cases hh:lev<(μ'++[l']).length
   ·exact hh
   ·simp only[bP,b7]at h;rw[fq bu]at h;exact h.elim
  exact cS this
 have hlive: ∀lev i,b6 (bP (μ'++[l']) lev i)->b6 (bP ((μ'++[l'])++[sr.lam]) lev i):=λlev i h=>by rw[eO lev i h];exact h
 have hown: ∀q b,bF ((G.push L s.lam.length).withO O') w' s.fr tm (μ'++[l']) q b->(b<w.heap.size/\ ¬T b/\bF G w s.fr tm (μ++[s.lam]) q b)\/((∃lev i k,q= .ob lev i k)/\bF ((G.push L s.lam.length).withO O') w' sr.fr tmr ((μ'++[l'])++[sr.lam]) q b):=by
  intro q b h;cases q with|fr t=>exact .inl ⟨(hfrT t b h).1,(hfrT t b h).2,h⟩|ob lev i k=>exact .inr ⟨⟨_,_,_,rfl⟩,ja (fr':=s.fr) (tm':=tm) (eO lev i (i8 h)).symm rfl rfl h⟩
 have hTr:=E.grow;refine⟨⟨hμ',λt=> ?_,λi=> ?_,λlev i hlt=> ?_,λlev i lev' i' h h' e=>Rc.inj lev i lev' i' (hlive lev i h) (hlive lev' i' h') e,λq q' b h h'=> ?_,λq b lev i h h' e=> ?_,λlev hlt=> ?_,?_,λlev hlt=> ?_⟩,hown,hlive⟩
 ·exact fw hle (by simp only;omega) (λ_ _=>⟨rfl,rfl⟩) _ _ (λb hb=>hkeep b (hfrT t b hb).1 (hfrT t b hb).2) (R.fr t)
 ·have h1:=Rc.mu L i bu;have e1:b7 (μ'++[l']) L i=bQ l' i:=by rw[<-hμ'];exact cV
  rw[e1]at h1;revert h1;generalize bQ l' i=q;intro h1;cases q with
  |dead=>trivial|cells cs=>simp only[ObR]at h1 |-;obtain⟨cur,e,fz,a1,a2,a3,a4,a5⟩:=h1;exact⟨cur,e,fz,a1,a2,a3,a4,λj x hx=>tw x _ (a5 j x hx)⟩
  |arr kk cs=>simp only[ObR]at h1 |-;obtain⟨hk,cur,e,fz,a1,a2,a3,a4,a5⟩:=h1;exact⟨hk,cur,e,fz,a1,a2,a3,a4,λj x hx=>cZ (su _ _ _) x _ (a5 j x hx)⟩
  |map ks vs=>simp only[ObR]at h1 |-;obtain⟨es,clk,a1,a2,a3⟩:=h1;exact⟨es,clk,a1,a2,qq (su _ _ _) a3⟩
 ·have h1:=Rc.mu lev i bu;have e1:b7 (μ'++[l']) lev i=b7 μ' lev i:=cS bu;rw[e1]at h1;exact h1
 ·rcases hown q b h with⟨h1,h2,h3⟩|⟨⟨_,_,_,rfl⟩,h3⟩<;>rcases hown q' b h' with⟨h1',h2',h3'⟩|⟨⟨_,_,_,rfl⟩,h3'⟩
  ·exact R.own q q' b h3 h3'
  ·exfalso;rcases hTr b (.inl ⟨_,h3'⟩)with hh|hh
   ·exact h2 hh
   ·omega
  ·exfalso;rcases hTr b (.inl ⟨_,h3⟩)with hh|hh
   ·exact h2' hh
   ·omega
  ·exact Rc.own _ _ b h3 h3'
 ·have h3':=hlive lev i h';rcases hown q b h with⟨h1,h2,h3⟩|⟨⟨_,_,_,rfl⟩,h3⟩
  ·rcases hTr b (.inr ⟨lev,i,h3',e⟩)with hh|hh
   ·exact h2 hh
   ·omega
  ·exact Rc.apart _ b lev i h3 h3' e
 ·have h1:=Rc.nlt lev bu;rw[h1];simp only[fp,fN (show lev<μ'.length by omega)]
 ·simp only[cX];simp only[Gh.withO,Gh.push,cX];exact hlen
 ·simp only[Gh.withO,Gh.push];rw[bE bu];exact R.ngt lev hlt
end
section
variable {P:Program}{W0:World}{ρ:Rho}{α:Type}{L:Nat}{G:Gh}{w:World}{s:S}{μ:Mu}{a:Act}{o:Oper}{h:OpHint}{k:LV->S->Mu->Option α}{p:CV->S->Mu->Option α}{r:α}{K:Act->World->Prop}{Q:Exit->Act->World->Prop}
def xg {q:Mu×Lam}(h:dq μ=some q):μ=q.1++[q.2]:=by unfold dq at h;split at h<;>simp only[bJ,reduceCtorEq]at h;rename_i l r e;subst h;simp_all
def ArgsR.strip {ts:List Nat}{args:List LV}{cargs:Array Value}(A:ArgsR G w L s a.tmps ts args cargs):True:=trivial
def VP {f:FuncId}{args args':List LV}{l:Lam}{cargs:Array Value}(R:Rel G L s μ a.tmps w)(hd: ∀d,o.dst=some d->d<a.tmps.size)(hk:KOK L G w s μ a o.dst k r K)(hpk:POK L G w s μ a p r Q)
 (hrho: ∀f args μ out,ρ.call f args μ=some out->fk P W0 f args μ out) (hkn:Kn W0 w (bH G w s μ a.tmps)) (A:ArgsR G w L s a.tmps h.take args cargs) (ha:ke μ.length args=some args') (hlm:gK μ.length s.lam=some l)
 (hrun:(∃fn c,P.funcs[f]? =some fn/\fn.body=some c/\(fn.name == "runtime.NumGoroutine")=false)->(execOp a.eval o).run P w= .ok (.enter f cargs) w)
 (hop : callK (ρ.call f args' (μ ++ [l])) (λv μ => opt (dq μ) λq => eP P h.own o.type v λv => k v { bw h.take s with lam := q.2, pushed := true } q.1)
  (λv μ=>opt (dq μ) λq=>p v {bw h.take s with lam:=q.2,pushed:=true} q.1)=some r):o.wp P a w K Q:=by
 obtain⟨out,hout,hop⟩:=bz.1 hop;obtain⟨hfn,hM⟩:=hrho _ _ _ _ hout;have hμ:=R.lev;rw[hμ]at ha hlm;obtain⟨R1,E1,hO⟩:=fa R h.take;have hl:=ci h.take s;obtain⟨Re,hown,hlive⟩:=R.enterP A ha hlm;have hT: ∀b,bH (G.push L s.lam.length) w (ck args') (μ++[l]) cargs b-> ∀t,¬bZ ((bw h.take s).fr t) (a.tmps.getD t undef) b:=by
  rintro b (⟨q,hb⟩|⟨lev,i,hb,rfl⟩) t ht
  ·rcases hown q b hb with⟨j,x,rfl,hx,ho⟩|⟨lev,i,k,rfl,ho⟩
   ·obtain⟨⟨u,hu,hou⟩,_⟩:=A.own j x b hx ho;obtain⟨a1,a2⟩:=hO (.fr t) b ht;exact a1 u hu (R.own _ (.fr u) b a2 hou)
   ·have:=R.own _ _ b (hO (.fr t) b ht).2 ho;cases this
  ·exact R.apart _ _ lev i (hO (.fr t) _ ht).2 (hlive lev i hb) rfl
 have hT0: ∀b,bH (G.push L s.lam.length) w (ck args') (μ++[l]) cargs b->bH G w s μ a.tmps b:=by
  rintro b (⟨q,hb⟩|⟨lev,i,hb,rfl⟩)
  ·rcases hown q b hb with⟨j,x,rfl,hx,ho⟩|⟨lev,i,k,rfl,ho⟩
   ·obtain⟨⟨u,hu,hou⟩,_⟩:=A.own j x b hx ho;exact .inl ⟨.fr u,hou⟩
   ·exact .inl ⟨_,ho⟩
  ·exact .inr ⟨lev,i,hlive lev i hb,rfl⟩
 have hcall:=hM (G.push L s.lam.length) w cargs (by rw[A.size,(kJ ha).1]) (by rw[cC,hμ];exact Re) (hkn.mono hT0);rw[show (μ++[l]).length=L+1 by simp[hμ]]at hcall;unfold Oper.wp;rw[hrun hfn,Oper.upon_enter];refine hcall.mono λe w' hR=> ?_;have hnL: ∀i,i<G.n L->i<s.lam.length:=λi hi=>by have:=R.nL;split at this<;>omega
 have merge: ∀{O':Nat->Nat} {sr:S} {μ':Mu} {l':Lam} {tmr:Array Value},sr.lam=[]->Rel ((G.push L s.lam.length).withO O') (L+1) sr (μ'++[l']) tmr w'->
  Ext (L+1) (bH (G.push L s.lam.length) w (ck args') (μ++[l]) cargs) (G.push L s.lam.length) w ((G.push L s.lam.length).withO O') w' (bH ((G.push L s.lam.length).withO O') w' sr (μ'++[l']) tmr)->
  Rel ((G.push L s.lam.length).withO O') L {bw h.take s with lam:=l',pushed:=true} μ' a.tmps w'/\Ext L (bH G w s μ a.tmps) G w ((G.push L s.lam.length).withO O') w' (bH ((G.push L s.lam.length).withO O') w' {bw h.take s with lam:=l',pushed:=true} μ' a.tmps)/\
  (∀b,bH ((G.push L s.lam.length).withO O') w' sr (μ'++[l']) tmr b->(bH G w s μ a.tmps b\/w.heap.size<=b))/\
  (∀ t b, bF ((G.push L s.lam.length).withO O') w' sr.fr tmr ((μ' ++ [l']) ++ [sr.lam]) (.fr t) b -> (∀ q, ¬ bF ((G.push L s.lam.length).withO O') w' (bw h.take s).fr a.tmps (μ' ++ [l']) q b) /\
   ∀lev i,b6 (bP (μ'++[l']) lev i)->((G.push L s.lam.length).withO O').β lev i≠b):=by
  intro O' sr μ' l' tmr hlam Rc E;have hsl:(bw h.take s).lam.length=s.lam.length:=by rw[hl.1]
  obtain⟨R2,h2,h3⟩:=R1.mergeP (O':=O') hT hlam (by rw[hsl];exact Rc) (by rw[hsl];exact E);rw[hsl]at R2 h2;have hin: ∀b,bH ((G.push L s.lam.length).withO O') w' sr (μ'++[l']) tmr b->(bH G w s μ a.tmps b\/w.heap.size<=b):=λb hb=>(E.grow b hb).imp (hT0 b) id;refine⟨R2,⟨(pr hnL).trans E.le,E.os,E.tape,E.output,E.size,λb hb hn=>E.keep b hb λhh=>hn (hT0 b hh),λb hb=> ?_,λlv hlv=> ?_⟩,hin,λt b hb=>⟨λq hq=> ?_,λlev i hli e=>Rc.apart _ b lev i hb (h3 lev i hli) e⟩⟩
  ·rcases hb with⟨q,hb⟩|⟨lev,i,hb,rfl⟩
   ·rcases h2 q b hb with⟨_,_,h4⟩|⟨_,h4⟩
    ·exact .inl (.inl ⟨q,(hO q b h4).2⟩)
    ·exact hin b (.inl ⟨q,h4⟩)
   ·exact hin _ (.inr ⟨lev,i,h3 lev i hb,rfl⟩)
  ·refine⟨λ_=>⟨rfl,rfl⟩,?_⟩;simp only[Gh.withO,Gh.push];rw[bE bu]
  ·rcases h2 q b hq with⟨h4,h5,_⟩|⟨⟨_,_,_,rfl⟩,h4⟩
   ·rcases E.grow b (.inl ⟨_,hb⟩)with hh|hh
    ·exact h5 hh
    ·omega
   ·have:=Rc.own _ _ b hb h4;cases this
 cases out with
 |ret v μx=>
  cases e with
  |returned cv=>
   simp only[jE]at hR;obtain⟨O',Rc,E⟩:=hR;obtain⟨q,hq,hop2⟩:=bz.1 hop;clear hop;have hq':=xg hq;subst hq';obtain⟨R2,E2,hin,hfr⟩:=merge rfl Rc E;obtain⟨y,hy,hyr⟩:=jr hop2;have hv:LVR ((G.push L s.lam.length).withO O') w' (L+1) 0 v cv:=by have:=Rc.fr 0;simp only[eJ,eu,gB]at this;simpa[ck]using this
   obtain⟨hy1,hy2⟩:=hyr ((G.push L s.lam.length).withO O') w' L q.2.length cv (B3 v cv hv)
   obtain ⟨R3, E3⟩ := ex (dst := o.dst) (v := y) (cv := cv) R2 E2 hy1 (λb hb => by
    have hat:bF ((G.push L s.lam.length).withO O') w' (ck [v]).fr #[cv] ((q.1++[q.2])++[(ck [v]).lam]) (.fr 0) b:=by have:=hy2 b hb;simpa[bF,eJ]using this
    exact⟨(hfr 0 b hat).1,(hfr 0 b hat).2,hin b (.inl ⟨_,hat⟩)⟩) hd
   exact hk y _ _ cv w' _ hy R3 E3
  |panicked ch=>simp[jE]at hR|outgrown=>simp[jE]at hR
 |panic v μx=>
  cases e with
  |returned cv=>simp[jE]at hR|panicked ch=>simp only[jE]at hR;obtain⟨O',pv,rfl,hv,Rc,E⟩:=hR;obtain⟨q,hq,hop2⟩:=bz.1 hop;clear hop;have hq':=xg hq;subst hq';obtain⟨R2,E2,_,_⟩:=merge rfl Rc E;exact hpk v _ _ pv w' _ hop2 R2 hv E2
  |outgrown=>simp[jE]at hR
end
open Go.MapKept
section
variable {G:Gh}{w:World}{L:Nat}{P:Program}
def LM {d:TypeDesc}{v:Value}(h:Jt d v=true):IsKey d v:=by cases d<;>cases v<;>simp_all [Jt,IsKey]
def qe {d:TypeDesc}: ∀{ks:List Value},oU d ks=true-> ∀x∈ks,IsKey d x
 |[],_,x,hx=>by simp at hx|k::r,h,x,hx=>by
  simp only[oU]at h;split at h<;>try(cases h;done)
  rename_i hk;rcases eE.1 hx with rfl|hx
  ·exact LM hk
  ·exact qe h x hx
def xL {d:TypeDesc}{a b:Value}(ha:IsKey d a)(hb:IsKey d b):Instr.sameNow d a b=some (Az a b):=by obtain⟨r,h1,h2⟩:=sameNow_of_keys ha hb;rw[h1];congr 1;rw[Bool.eq_iff_iff,h2];cases d<;>cases a<;>cases b<;>simp_all [IsKey,Az];rename_i x y;cases x;cases y;simp
def Jm {d:TypeDesc}{k:Value}(hk:IsKey d k): ∀{es:List MapEntry} {ks:List Value} {vs:List CV} {i:Nat},es.map MapEntry.key=ks->VRL G w vs (es.map MapEntry.val)->(∀x∈ks,IsKey d x)->
 (kD ks vs k=none->Instr.findNow d k es i=some none)/\(∀c,kD ks vs k=some c-> ∃j v,Instr.findNow d k es i=some (some (j,v))/\VR G w c v)
 |[],ks,vs,i,he,hv,ho=>by subst he;exact⟨λ_=>rfl,λc hc=>by simp[kD]at hc⟩|e::es,ks,vs,i,he,hv,ho=>by
  subst he;cases vs with
  |nil=>simp[VRL]at hv|cons c0 vs=>simp only[dQ,VRL,sf]at hv;obtain⟨v,r,⟨rfl,rfl⟩,h1,h2⟩:=hv;have hs:=xL hk (ho e.key bG);obtain⟨i1,i2⟩:=Jm hk (i:=i+1) rfl h2 (λx hx=>ho x (by simp only[dQ,eE];exact .inr hx));simp only[kD,dQ,Instr.findNow,hs];grind
def ON {d:TypeDesc}{k:Value}(hk:IsKey d k): ∀{es:List MapEntry} {i:Nat},(∀x∈es.map MapEntry.key,IsKey d x)->
 (oT (es.map MapEntry.key) k=none->Instr.findNow d k es i=some none)/\(∀n,oT (es.map MapEntry.key) k=some n-> ∃e,es[n]? =some e/\e.key=k/\Instr.findNow d k es i=some (some (i+n,e.val)))
 |[],i,ho=>⟨λ_=>rfl,λn hn=>by simp[oT]at hn⟩|e::es,i,ho=>by
  have hs:=xL hk (ho e.key bG);obtain⟨i1,i2⟩:=ON hk (es:=es) (i:=i+1) (λx hx=>ho x (by simp only[dQ,eE];exact .inr hx));simp only[oT,dQ,Instr.findNow,hs];cases hke:Az k e.key with
  |true=>refine⟨λh=>by simp at h,λn hn=> ?_⟩;simp only[bJ]at hn;subst hn;refine⟨e,rfl,?_,rfl⟩;have:=(sameNow_of_keys hk (ho e.key bG));simp_all|false=>
   refine⟨λh=>i1 ?_,λn hn=> ?_⟩
   ·cases hki:oT (es.map MapEntry.key) k with|none=>rfl|some n=>rw[hki]at h;simp[opt]at h
   ·obtain⟨m,h1,h2⟩:=bz.1 hn;grind
def Pb {t kt et:TypeId}{d:TypeDesc}{r:Nat}{es:Array MapEntry}{clk:Nat}{k v:Value}{ks:List Value}{vs:List CV}{c:CV}(hm:P.underlying t=some (.map kt et))(hd:P.underlying kt=some d)
 (hb:w.heap[r]? =some (.map es clk)) (hk:IsKey d k) (hM:xW G w ks vs es) (ho: ∀x∈ks,IsKey d x):
 ∃es' clk',(Instr.mapUpdate t (.map (some r)) k v).run P w= .ok () {w with heap:=w.heap.setIfInBounds r (.map es' clk')}/\es'.toList.map MapEntry.key=pL ks k/\
  ∀G' w',VRL G' w' vs (es.toList.map MapEntry.val)->VR G' w' c v->VRL G' w' (pM ks vs k c) (es'.toList.map MapEntry.val):=by
 obtain⟨hk1,hv1⟩:=hM;subst hk1;obtain⟨i1,i2⟩:=ON hk (es:=es.toList) (i:=0) ho;cases hi:oT (es.toList.map MapEntry.key) k with
 |none=>
  have hf:=i1 hi;refine⟨es.push {key:=k,val:=v,born:=clk},clk+1,?_,?_,λG' w' h1 h2=> ?_⟩
  ·simp[Instr.mapUpdate,c8 hm,AV hb,vP hd hk,vR hd hf,MapKept.run_setObj_map _ hb,Result.andThen]
  ·simp[pL,hi]
  ·simp only[pM,hi,Array.toList_push,th,dQ,iC];revert h1;generalize es.toList.map MapEntry.val=l;clear hv1
   induction vs generalizing l with
   |nil=>intro h1;simp only[VRL]at h1;subst h1;simpa[VRL]using h2|cons x vs ih=>intro h1;simp only[VRL]at h1;obtain⟨u,q,rfl,a1,a2⟩:=h1;simp only[ew,VRL];grind
 |some n=>
  obtain⟨e,he,hek,hf⟩:=i2 n hi;rw[gC]at hf;have he':es[n]? =some e:=by simpa using he
  refine⟨es.modify n λe=>{e with key:=k,val:=v},clk,?_,?_,λG' w' h1 h2=> ?_⟩
  ·have hks:(Instr.keyThatStays (((es[n]?).map (·.key)).getD k) k).run P w= .ok k w:=by rw[he'];simp only[d8,gB,hek];exact run_keyThatStays hk
   simp[Instr.mapUpdate,c8 hm,AV hb,vP hd hk,vR hd hf,hks,MapKept.run_setObj_map _ hb,Result.andThen]
  ·simp only[pL,hi];exact modify_keys n _ λe2 h=>by simp_all
  ·simp only[pM,hi];have hl:(es.modify n λe=>{e with key:=k,val:=v}).toList.map MapEntry.val=(es.toList.map MapEntry.val).set n v:=by apply List.ext_getElem?;grind
   rw[hl];revert h1;generalize es.toList.map MapEntry.val=l;clear hl hv1 hf he he' i1 i2 hi
   induction vs generalizing l n with
   |nil=>intro h1;simp only[VRL]at h1;subst h1;simp[VRL]|cons x vs ih=>
    intro h1;simp only[VRL]at h1;obtain⟨u,q,rfl,a1,a2⟩:=h1;cases n with|zero=>simp only[Gi,VRL];exact⟨v,q,rfl,h2,a2⟩|succ n=>simp only[List.set_cons_succ,VRL];exact⟨u,_,rfl,a1,ih n q a2⟩
def Rel.setMap {s s1:S}{μ μ1:Mu}{tm:Array Value}(R:Rel G L s μ tm w){lev i:Nat}{ks ks':List Value}{vs vs':List CV}(hob:bP (μ++[s.lam]) lev i= .map ks vs){es es':Array MapEntry}{clk clk':Nat}
 (hb:w.heap[G.β lev i]? =some (.map es clk)) (hfr:s1.fr=s.fr) (hp:s1.pushed=s.pushed) (hlen:s1.lam.length=s.lam.length) (hμlen:μ1.length=μ.length) (hH:μ1++[s1.lam]=cq (μ++[s.lam]) lev i (.map ks' vs'))
 (hnew: ∀w',Le G w G w'->(lev=L->xW G w' ks' vs' es')/\(lev<L->xW (G.below lev) w' ks' vs' es')):
 let w1:World:={w with heap:=w.heap.setIfInBounds (G.β lev i) (.map es' clk')}
 Rel G L s1 μ1 tm w1/\Ext L (bH G w s μ tm) G w G w1 (bH G w1 s1 μ1 tm):=by
 intro w1;have hl:b6 (bP (μ++[s.lam]) lev i):=by rw[hob];trivial
 have hO:G.O (G.β lev i)=0:=by
  rcases e8 R.lev hl with⟨h1,h2⟩|⟨rfl,h1,h2⟩
  ·have:=R.mu lev i h1;rw[<-h2,hob]at this;simp only[ObR]at this;obtain⟨_,_,_,h,_⟩:=this;exact h
  ·have:=R.lam i;rw[<-h2,hob]at this;simp only[ObR]at this;omega
 have hw1:w1.heap[G.β lev i]? =some (.map es' clk'):=(heap_set hb).1;have hblk: ∀b,b≠G.β lev i->w1.heap[b]? =w.heap[b]? :=λb h=>(heap_set hb).2 b h;have hsz:w1.heap.size=w.heap.size:=by simp[w1]
 have hle:Le G w G w1:=by
  refine⟨λb es2 clk2 h hb2=> ?_,λ_ _ h=>⟨h,rfl,rfl⟩,λb off v h hc=> ?_,λb cur2 e2 fz2 h=> ?_⟩
  ·grind
  ·have hne:b≠G.β lev i:=λe=>by subst e;omega
   refine⟨h,?_⟩;rw[<-hc];simp only[World.cell?];simp_all
  grind
 have hset:=nI (o:=Ob.map ks' vs') hl;have hAt: ∀l j,bP (μ1++[s1.lam]) l j=if l=lev/\j=i then .map ks' vs' else bP (μ++[s.lam]) l j:=λl j=>by rw[bP,hH];exact hset l j
 have hlive: ∀l j,b6 (bP (μ1++[s1.lam]) l j)->b6 (bP (μ++[s.lam]) l j):=by grind
 have hne: ∀l j,b6 (bP (μ++[s.lam]) l j)-> ¬(l=lev/\j=i)->G.β l j≠G.β lev i:=λl j h hn e=>hn (R.inj l j lev i h hl e);have hownAt: ∀l b,bF G w1 s1.fr tm (μ1++[s1.lam]) l b->bF G w s.fr tm (μ++[s.lam]) l b:=by
  intro l b h;cases l with
  |fr t=>rw[hfr]at h;exact h|ob l j k=>
   simp only[bF]at h;split at h<;>try(exact h.elim)
   rename_i cs hcs;split at h<;>try(exact h.elim)
   rename_i x hx;obtain⟨cur2,e2,fz2,hb2,ho⟩:=h;rw[hAt]at hcs;by_cases e:l=lev/\j=i
   ·simp_all
   ·rw[bE e]at hcs;have hl2:b6 (bP (μ++[s.lam]) l j):=by rw[hcs];trivial
    rw[hblk _ (hne l j hl2 e)]at hb2;simp only[bF,hcs,hx];simp_all
 have hownBlk: ∀l b,bF G w s.fr tm (μ++[s.lam]) l b->w1.heap[b]? =w.heap[b]? /\G.O b=G.O b:=λl b h=>⟨hblk b λe=>R.apart l b lev i h hl e.symm,rfl⟩;have hlvl:lev<=L:=by rcases e8 R.lev hl with⟨h1,_⟩|⟨h1,_⟩<;>omega
 refine ⟨⟨by rw [hμlen]; exact R.lev, λt => ?_, λj => ?_, λl j hlt => ?_, λl j l' j' h h' e' => R.inj l j l' j' (hlive l j h) (hlive l' j' h') e', λl l' b h h' => R.own l l' b (hownAt l b h) (hownAt l' b h'), λl b l' j h h' e' => R.apart l b l' j (hownAt l b h) (hlive l' j h') e', λl hlt => ?_, ?_, R.ngt⟩,
  ⟨hle,rfl,rfl,rfl,by rw[hsz];exact cw _,λb hb' hn=>⟨hblk b λe=>hn (.inr ⟨lev,i,hl,e.symm⟩),rfl⟩,λb hb'=> .inl ?_,λ_ _=>⟨λ_=>⟨rfl,rfl⟩,rfl⟩⟩⟩
 ·rw[hfr,hlen];exact fw hle (cw _) (λ_ _=>⟨rfl,rfl⟩) _ _ (λb hb=>hownBlk (.fr t) b hb) (R.fr t)
 ·rw[hlen];have e1:bP (μ1++[s1.lam]) L j=bQ s1.lam j:=by rw[<-R.lev,<-hμlen];exact cV
  have e2:bP (μ++[s.lam]) L j=bQ s.lam j:=by rw[<-R.lev];exact cV
  rw[<-e1,hAt];split
  ·rename_i e;obtain⟨rfl,rfl⟩:=e;simp only[ObR];exact⟨es',clk',hw1,hO,(hnew w1 hle).1 rfl⟩
  ·rename_i e;rw[e2];refine ey hle (cw _) (λ_ _=>⟨rfl,rfl⟩) (λh=>⟨hblk _ (hne L j (by rw[e2];exact h) e),rfl⟩) (λcs k x cur e fz ho hx hb b' hb'=>hownBlk (.ob L j k) b' ?_) (R.lam j);simp only[bF,e2,ho,hx];exact⟨cur,e,fz,hb,hb'⟩
 ·have e1:bP (μ1++[s1.lam]) l j=b7 μ1 l j:=cS (by rw[hμlen,R.lev];exact hlt);have e2:bP (μ++[s.lam]) l j=b7 μ l j:=cS (by rw[R.lev];exact hlt);rw[<-e1,hAt];split
  ·rename_i e;obtain⟨rfl,rfl⟩:=e;simp only[ObR];exact⟨es',clk',hw1,hO,(hnew w1 hle).2 hlt⟩
  ·rename_i e;rw[e2];refine ey (hle.below l) (cw _) (λ_ h=>by omega) (λh=>⟨hblk _ (hne l j (by rw[e2];exact h) e),rfl⟩) (λcs k x cur e fz ho hx hb b' hb'=>hownBlk (.ob l j k) b' ?_) (R.mu l j hlt);simp only[bF,e2,ho,hx];exact⟨cur,e,fz,hb,hb'⟩
 ·have h1:(μ1.getD l []).length=(μ.getD l []).length:=by
   have:=(kU (H:=μ++[s.lam]) (lev:=lev) (i:=i) (o:=Ob.map ks' vs')).2 l;rw[<-hH]at this;have a1:l<μ1.length:=by rw[hμlen,R.lev];exact hlt
   have a2:l<μ.length:=by rw[R.lev];exact hlt
   simp only[fp,fN a1,fN a2]at this |-;exact this
  rw[h1];exact R.nlt l hlt
 ·rw[hp,hlen];exact R.nL
 ·rcases hb' with⟨l,hb'⟩|⟨l,j,h,rfl⟩
  ·exact .inl ⟨l,hownAt l b hb'⟩
  ·exact .inr ⟨l,j,hlive l j h,rfl⟩
end
section
variable {P:Program}{ρ:Rho}{α:Type}{L:Nat}{G:Gh}{w:World}{s:S}{μ:Mu}{a:Act}{o:Oper}{h:OpHint}{k:LV->S->Mu->Option α}{p:CV->S->Mu->Option α}{r:α}{K:Act->World->Prop}{Q:Exit->Act->World->Prop}
def ER {t:TypeId}{z:CV}(hz:EQ P t=some z): ∃zv,(zeroValue t).run P w= .ok zv w/\VR G w z zv:=by
 unfold EQ at hz;split at hz<;>try(simp at hz;done)
 rename_i i hi;split at hz<;>try(simp at hz;done)
 rename_i zv hzv;refine⟨zv,by simp[zeroValue,typeInfo,hi,hzv],?_⟩;split at hz
 ·rename_i cs;simp only[bJ]at hz;subst hz;simp only[VR];refine⟨cs,rfl,?_⟩;generalize cs.toList=l
  induction l with|nil=>simp[VRL]|cons x l ih=>simp only[dQ,VRL];exact⟨x,l,rfl,by simp[VR],ih⟩
 ·simp only[bJ]at hz;subst hz;simp[VR]
def AR {nl:Nat}{c:CV}{v:Value}{b:Bool}(h:VR G w c v):LVR G w L nl (.ltup [.cv c,.cv (.v (.bool b))]) (.tuple #[v,.bool b]):=by simp only[LVR];refine⟨_,rfl,?_⟩;simp only[dV];exact⟨v,[.bool b],rfl,bG,by simpa[LVR]using h,.bool b,[],rfl,bG,by simp[LVR,VR],rfl⟩
def s6 (R:Rel G L s μ a.tmps w)(hd: ∀d,o.dst=some d->d<a.tmps.size)(hk:KOK L G w s μ a o.dst k r K){ts:List Nat}{v:LV}(hno: ∀cv b,¬bZ v cv b)
 (h:k v (bw ts s) μ=some r) (hrun: ∃cv,(execOp a.eval o).run P w= .ok (.value cv) w/\LVR G w L s.lam.length v cv):o.wp P a w K Q:=by
 obtain⟨cv,h1,h2⟩:=hrun;exact fV R hd hk h h1 h2 (λb hb=>absurd hb (hno cv b))
def IQ {x:Operand}{xt t:TypeId}{ok:Bool}(ho:o.op= .typeAssert x xt t ok)(R:Rel G L s μ a.tmps w)(hd: ∀d,o.dst=some d->d<a.tmps.size)(hk:KOK L G w s μ a o.dst k r K)
 (hop:(mH P (evA h s.fr x) t ok λv=>k v (bw h.take s) μ)=some r):o.wp P a w K Q:=by
 unfold mH at hop;split at hop<;>try(simp at hop;done)
 rename_i d hni hu;split at hop<;>try(simp at hop;done)
 obtain⟨z,hz,hop2⟩:=bz.1 hop;clear hop;obtain⟨zv,hzr,hzv⟩:=ER (G:=G) (w:=w) hz;have hno: ∀c b (cv:Value) bl,¬bZ (.ltup [.cv c,.cv (.v (.bool b))]) cv bl:=λ_ _ _ _ h=>by simp[bZ]at h
 have hmiss : (Instr.typeAssert (a.eval x) xt t true).run P w = (match a.eval x with
  | .nilIface=> .ok (.tuple #[zv,.bool false]) w| .iface u v=>if u=t then .ok (.tuple #[v,.bool true]) w else .ok (.tuple #[zv,.bool false]) w
  |_=>(Instr.typeAssert (a.eval x) xt t true).run P w):=by
  unfold Instr.typeAssert;cases hx:a.eval x<;>try rfl
  ·rename_i u v;simp only[dc,c8 hu,df];cases d<;>first
    |(exact absurd hu (hni _))|(by_cases hut:u=t<;>simp[hut,hzr])
  ·simp only[dc,c8 hu,df];cases d<;>first
    |(exact absurd hu (hni _))|simp[hzr]
 split at hop2
 ·rename_i u c he;have hv:=eA R he;simp only[VR]at hv;obtain⟨v,e,hc⟩:=hv;rw[e]at hmiss;split at hop2
  ·rename_i hut;have:=eC hut;subst this;refine s6 R hd hk (hno _ _) hop2 ⟨.tuple #[v,.bool true],?_,AR hc⟩;simp only[execOp,ho,e];simp_all
  ·rename_i hut;refine s6 R hd hk (hno _ _) hop2 ⟨.tuple #[zv,.bool false],?_,AR hzv⟩;simp only[execOp,ho,e];refine fo ?_;rw[hmiss];have: ¬u=t:=λe=>by subst e;simp[pn]at hut
   simp[this]
 ·rename_i he;have hv:=eA R he;simp only[VR]at hv;rw[hv]at hmiss;refine s6 R hd hk (hno _ _) hop2 ⟨.tuple #[zv,.bool false],?_,AR hzv⟩;simp only[execOp,ho,hv];simp_all
 simp_all
def SL {t:TypeId}(ho:o.op= .makeMap t none)(R:Rel G L s μ a.tmps w)(hd: ∀d,o.dst=some d->d<a.tmps.size)(hk:KOK L G w s μ a o.dst k r K)
 (hop:k (.mloc (bw h.take s).lam.length) {bw h.take s with lam:=(bw h.take s).lam++[.map [] []]} μ=some r):o.wp P a w K Q:=by
 obtain⟨R1,E,_⟩:=fa R h.take;obtain⟨R2,hle,hT,hv⟩:=R1.newMap;have E1:Ext L (bH G w s μ a.tmps) G w (G.setL L (bw h.take s).lam.length w.heap.size 0 (bw h.take s).pushed) (w.alloc (.map #[] 0)) (bH (G.setL L (bw h.take s).lam.length w.heap.size 0 (bw h.take s).pushed) (w.alloc (.map #[] 0)) {bw h.take s with lam:=(bw h.take s).lam++[.map [] []]} μ a.tmps):=by
  refine⟨hle,rfl,rfl,rfl,bG,λb hb hn=> ?_,λb hb=> ?_,λl hl=>K3 l hl⟩
  ·refine⟨iN w _ hb,?_⟩;have:b≠w.heap.size:=bu;simp[Gh.setL,this]
  ·rcases hT b hb with h1|rfl
   ·exact E.grow b h1
   omega
 obtain⟨R3,E3⟩:=ex (dst:=o.dst) (v:= .mloc (bw h.take s).lam.length) (cv:= .map (some w.heap.size)) R2 E1 hv (λb hb=>by simp[bZ]at hb) hd;refine ez ?_ (hk _ _ μ _ _ _ hop R3 E3);simp only[execOp,ho];rfl
def DT {t:TypeId}{q:TypeDesc×TypeId}(h:HS P t=some q): ∃kt,P.underlying t=some (.map kt q.2)/\P.underlying kt=some q.1:=by
 unfold HS at h;split at h<;>try(simp at h;done)
 rename_i kt e hu;obtain⟨d,hd,h⟩:=bz.1 h;grind
def GP {d:TypeDesc}{x:LV}{kv:Value}{nl:Nat}{v:Value}(h:Qn d x=some kv)(hv:LVR G w L nl x v):v=kv/\IsKey d kv:=by
 unfold Qn at h;split at h<;>try(simp at h;done)
 ·obtain⟨n,h1,h2⟩:=bz.1 h;simp only[bJ]at h2;subst h2;rw[me h1]at hv;simp only[LVR,VR]at hv;exact⟨hv,rfl⟩
 ·obtain⟨n,h1,h2⟩:=bz.1 h;simp only[bJ]at h2;subst h2;rw[jM h1]at hv;simp only[LVR,VR]at hv;exact⟨hv,trivial⟩
 ·obtain⟨n,h1,h2⟩:=bz.1 h;simp only[bJ]at h2;subst h2;rw[iT h1]at hv;simp only[LVR,VR]at hv;exact⟨hv,trivial⟩
def IP {t:TypeId}{m x y:Operand}(ho:o.op= .insert t m x y\/o.op= .mapUpdate t m x y)(R:Rel G L s μ a.tmps w)(hd: ∀d,o.dst=some d->d<a.tmps.size)(hk:KOK L G w s μ a o.dst k r K)
 (hop:lL P t (evA h s.fr m) (evA h s.fr x) (evA h s.fr y) (bw h.take s) μ k=some r):o.wp P a w K Q:=by
 obtain⟨R1,E1,hO⟩:=fa R h.take;have hl:=ci h.take s;have hexec: ∀{w':World},(Instr.mapUpdate t (a.eval m) (a.eval x) (a.eval y)).run P w= .ok () w'->(execOp a.eval o).run P w= .ok .skip w':=by intro w' hw;rcases ho with ho|ho<;>(simp only[execOp,ho];exact Rv hw)
 unfold lL at hop;obtain⟨q,hq,hop⟩:=bz.1 hop;obtain⟨kt,hu,hkd⟩:=DT hq;obtain⟨kv,hkv,hop⟩:=bz.1 hop;obtain⟨hkx,hkk⟩:=GP hkv (cI R h x).1;obtain⟨c,hc,hop⟩:=bz.1 hop;have hcv:=it hc (cI R h y).1;split at hop
 ·rename_i i he;have hm:=(cI R h m).1;rw[he]at hm;simp only[LVR]at hm;split at hop<;>try(simp at hop;done)
  rename_i ks vs hob;obtain⟨hg,hop⟩:=bM.1 hop;rw[hl.1]at hob;have hobr:=R.lam i;rw[hob]at hobr;simp only[ObR]at hobr;obtain⟨es,clk,hb,hO0,hM⟩:=hobr;obtain⟨es',clk',hrun,hkeys,hvals⟩:=Pb (P:=P) (c:=c) (v:=a.eval y) hu hkd hb hkk hM (qe hg);have hob2:bP (μ++[(bw h.take s).lam]) L i= .map ks vs:=by rw[hl.1,<-R.lev];exact cV.trans hob
  obtain⟨R2,E2⟩:=R1.setMap (s1:={bw h.take s with lam:=(bw h.take s).lam.set i (.map (pL ks kv) (pM ks vs kv c))}) (μ1:=μ) hob2 hb rfl rfl bG rfl (by rw[<-R.lev];exact od.symm) (es':=es') (clk':=clk')
   (λw' hle=>⟨λ_=>⟨hkeys,hvals G w' (k7 hle vs _ hM.2) (cZ hle c _ hcv)⟩,λe=>by omega⟩)
  obtain⟨R3,E3⟩:=ex (dst:=o.dst) (v:= .cv .undef) (cv:=undef) R2 (E1.trans E2) (by simp[LVR,VR]) (λb hb=>by simp[bZ]at hb) hd;refine rR (hexec ?_) (hk _ _ _ _ _ G hop R3 E3);rw[hm.2,hkx];exact hrun
 ·rename_i lev i he;have hm:=eA R he;simp only[VR]at hm;split at hop<;>try(simp at hop;done)
  rename_i ks vs hob;obtain⟨hg,hop⟩:=bM.1 hop;simp only[cM]at hg;have hlt:lev<μ.length:=by
   by_cases hq:lev<μ.length
   ·exact hq
   ·simp only[b7]at hob;rw[fq bu]at hob;simp at hob
  have hobr:=R.mu lev i (by rw[<-R.lev];exact hlt);rw[hob]at hobr;simp only[ObR]at hobr;obtain⟨es,clk,hb,hO0,hM⟩:=hobr;obtain⟨es',clk',hrun,hkeys,hvals⟩:=Pb (P:=P) (c:=c) (v:=a.eval y) hu hkd hb hkk hM (qe hg.1);have hob2:bP (μ++[(bw h.take s).lam]) lev i= .map ks vs:=(cS hlt).trans hob;obtain⟨R2,E2⟩:=R1.setMap (s1:=bw h.take s) (μ1:=cq μ lev i (.map (pL ks kv) (pM ks vs kv c))) hob2 hb rfl rfl rfl kU.1 (kV hlt).symm (es':=es') (clk':=clk')
   (λw' hle=>⟨λe=>by rw[R.lev]at hlt;omega,λ_=>⟨hkeys,hvals _ w' (k7 (hle.below lev) vs _ hM.2) (cZ (hle.below lev) c _ (IE c _ hg.2 hcv))⟩⟩)
  obtain⟨R3,E3⟩:=ex (dst:=o.dst) (v:= .cv .undef) (cv:=undef) R2 (E1.trans E2) (by simp[LVR,VR]) (λb hb=>by simp[bZ]at hb) hd;refine rR (hexec ?_) (hk _ _ _ _ _ G hop R3 E3);rw[hm.2,hkx];exact hrun
 ·simp at hop
def QB {x:LV}{q:List Value×List CV}{cv:Value}(R:Rel G L s μ a.tmps w)(h:AD x s μ=some q)(hv:LVR G w L s.lam.length x cv):
 (q=([],[])/\cv= .map none)\/ ∃r es clk,cv= .map (some r)/\w.heap[r]? =some (.map es clk)/\xW G w q.1 q.2 es:=by
 unfold AD at h;split at h
 ·simp only[bJ]at h;subst h;simp only[LVR,VR]at hv;obtain⟨r,es,clk,h1,h2,h3,h4,h5⟩:=hv;exact .inr ⟨r,es,clk,h1,h2,h4,h5⟩
 ·simp only[bJ]at h;subst h;simp only[LVR,VR]at hv;simp_all
 ·rename_i i;split at h<;>try(simp at h;done)
  rename_i ks vs hob;simp only[bJ]at h;subst h;simp only[LVR]at hv;have hobr:=R.lam i;rw[hob]at hobr;simp only[ObR]at hobr;grind
 ·rename_i lev i;split at h<;>try(simp at h;done)
  rename_i ks vs hob;simp only[bJ]at h;subst h;simp only[LVR,VR]at hv;have hlt:lev<μ.length:=by
   by_cases hq:lev<μ.length
   ·exact hq
   ·simp only[b7]at hob;simp_all
  have hobr:=R.mu lev i (by rw[<-R.lev];exact hlt);rw[hob]at hobr;simp only[ObR]at hobr;obtain⟨es,clk,hb,_,hM⟩:=hobr;exact .inr ⟨_,es,clk,hv.2,hb,qq (su G w lev) hM⟩
 ·simp at h
def VS {t:TypeId}{m x:Operand}{ok:Bool}(ho:o.op= .lookup t m x ok)(R:Rel G L s μ a.tmps w)(hd: ∀d,o.dst=some d->d<a.tmps.size)(hk:KOK L G w s μ a o.dst k r K)
 (hop:(mT P t (evA h s.fr m) (evA h s.fr x) ok (bw h.take s) μ λv=>k v (bw h.take s) μ)=some r):o.wp P a w K Q:=by
 obtain⟨R1,E1,hO⟩:=fa R h.take;have hl:=ci h.take s;unfold mT at hop;obtain⟨q,hq,hop⟩:=bz.1 hop;obtain⟨kt,hu,hkd⟩:=DT hq;obtain⟨kv,hkv,hop⟩:=bz.1 hop;obtain⟨hkx,hkk⟩:=GP hkv (cI R h x).1;obtain⟨pq,hpq,hop⟩:=bz.1 hop;obtain⟨hg,hop⟩:=bM.1 hop;have hmv:LVR G w L (bw h.take s).lam.length (evA h s.fr m) (a.eval m):=by rw[hl.1];exact(cI R h m).1
 have hmo:=QB R1 hpq hmv;have fin: ∀(c:CV) (v:Value) (b:Bool),VR G w c v->(Instr.lookup t (a.eval m) (a.eval x) ok).run P w= .ok (if ok then .tuple #[v,.bool b]else v) w->
  (ok=true->k (.ltup [.cv c,.cv (.v (.bool b))]) (bw h.take s) μ=some r)->(ok=false->k (.cv c) (bw h.take s) μ=some r)->o.wp P a w K Q:=by
  intro c v b hc hrun hT hF;cases ok with|true=>refine s6 R hd hk (λcv bl hh=>by simp[bZ]at hh) (hT rfl) ⟨.tuple #[v,.bool b],?_,AR hc⟩;simp only[execOp,ho];exact fo (by simpa using hrun)|false=>refine s6 R hd hk (λcv bl hh=>by simp[bZ]at hh) (hF rfl) ⟨v,?_,by simpa[LVR]using hc⟩;simp only[execOp,ho];exact fo (by simpa using hrun)
 have runs: ∀(es:Array MapEntry),(a.eval m= .map none/\es= #[]\/ ∃r clk,a.eval m= .map (some r)/\w.heap[r]? =some (.map es clk))->xW G w pq.1 pq.2 es->o.wp P a w K Q:=by
  intro es hes hM;obtain⟨f1,f2⟩:=Jm (G:=G) (w:=w) hkk (i:=0) hM.1 hM.2 (qe hg);have hnone:Instr.findNow q.1 kv es.toList 0=some none-> ∀v,(zeroValue q.2).run P w= .ok v w->(Instr.lookup t (a.eval m) (a.eval x) ok).run P w= .ok (if ok then .tuple #[v,.bool false]else v) w:=by
   intro hf v hz;rcases hes with⟨e1,rfl⟩|⟨r,clk,e1,hb⟩
   ·simp[Instr.lookup,c8 hu,e1,hkx,vP hkd hkk,vR hkd hf,hz]
   ·simp[Instr.lookup,c8 hu,e1,hkx,AV hb,vP hkd hkk,vR hkd hf,hz]
  have hsome: ∀j v,Instr.findNow q.1 kv es.toList 0=some (some (j,v))->(Instr.lookup t (a.eval m) (a.eval x) ok).run P w= .ok (if ok then .tuple #[v,.bool true]else v) w:=by
   intro j v hf;rcases hes with⟨e1,rfl⟩|⟨r,clk,e1,hb⟩
   ·simp[Instr.lookup,c8 hu,e1,hkx,vP hkd hkk,vR hkd hf]
   ·simp[Instr.lookup,c8 hu,e1,hkx,AV hb,vP hkd hkk,vR hkd hf]
  unfold optE at hop;cases hfd:kD pq.1 pq.2 kv with
  |none=>rw[hfd]at hop;obtain⟨z,hz,hop⟩:=bz.1 hop;obtain⟨zv,hzr,hzv⟩:=ER (G:=G) (w:=w) hz;grind
  |some c=>rw[hfd]at hop;obtain⟨j,v,hf,hcv⟩:=f2 c hfd;unfold iL at hop;obtain⟨c',hc',hcr⟩:=ta hop;exact fin c' v true (hcr G w L 0 v (by simpa[LVR]using hcv)) (hsome j v hf) (λe=>by subst e;exact hc') (λe=>by subst e;exact hc')
 rcases hmo with⟨e1,e2⟩|⟨r,es,clk,e1,hb,hM⟩
 ·exact runs #[] (.inl ⟨e2,rfl⟩) (by rw[e1];exact⟨rfl,by simp[VRL]⟩)
 ·exact runs es (.inr ⟨r,clk,e1,hb⟩) hM
end
section
variable {P:Program}{W0:World}{ρ:Rho}{α:Type}{L:Nat}{G:Gh}{w:World}{s:S}{μ:Mu}{a:Act}{o:Oper}{h:OpHint}{k:LV->S->Mu->Option α}{p:CV->S->Mu->Option α}{r:α}{K:Act->World->Prop}{Q:Exit->Act->World->Prop}
def gN (P:Program)(W0:World)(ρ:Rho):Prop:= ∀f args μ out,ρ.call f args μ=some out->fk P W0 f args μ out
def K0 {c:Call}{fx:Operand}{f:FuncId}{vs:Array Value}(ho:o.op= .call c)(hc:c.callee= .value fx)(he:a.eval fx= .func (.func f) #[] vs)
 (hfn: ∃fn cd,P.funcs[f]? =some fn/\fn.body=some cd/\(fn.name == "runtime.NumGoroutine")=false):
 (execOp a.eval o).run P w= .ok (.enter f (c.args.toList.map a.eval++vs.toList).toArray) w:=by
 obtain⟨fn,cd,h1,h2,h3⟩:=hfn;have e:(c.args.toList.map a.eval++vs.toList).toArray=c.args.map a.eval++vs:=by simp
 rw[e];simp only[execOp,ho,resolve,hc,he,Deferred.ofValue,dc,eW,df,invoke,callFunc,run_program,h1,h3,h2,Option.isNone_some,eD,dG,Array.empty_append]
def SI {c:Call}{fx:Operand}(ho:o.op= .call c)(hc:c.callee= .value fx)(R:Rel G L s μ a.tmps w)(hd: ∀d,o.dst=some d->d<a.tmps.size)(hk:KOK L G w s μ a o.dst k r K)(hpk:POK L G w s μ a p r Q)
 (hrho:gN P W0 ρ) (hkn:Kn W0 w (bH G w s μ a.tmps)) {f:FuncId} {caps:List LV} (hdis:jL c.args.toList=true) {vs:Array Value} (he:a.eval fx= .func (.func f) #[] vs) (hcaps:dV G w L s.lam.length caps vs.toList)
 (hop:gG P ρ h o.type f (c.args.toList.map (evA h s.fr)++caps) (bw h.take s) μ k p=some r):o.wp P a w K Q:=by
 have A:=VJ R (h:=h) hdis hcaps;have hl:=ci h.take s;unfold gG at hop;split at hop
 ·obtain⟨hg,hop2⟩:=bM.1 hop;simp only[cM,jv]at hg;rw[hl.2]at hg;exact VQ R hd hk hpk hrho hkn hg.1 hg.2 A (K0 ho hc he) hop2
 ·obtain⟨args',ha,hop2⟩:=bz.1 hop;obtain⟨l,hlm,hop3⟩:=bz.1 hop2;rw[hl.1]at hlm;exact VP R hd hk hpk hrho hkn A ha hlm (K0 ho hc he) hop3
def Ef (R:Rel G L s μ a.tmps w)(hd: ∀d,o.dst=some d->d<a.tmps.size)(hk:KOK L G w s μ a o.dst k r K)(hpk:POK L G w s μ a p r Q)(hrho:gN P W0 ρ)(hkn:Kn W0 w (bH G w s μ a.tmps))
 (hop:dY P ρ h o s μ k p=some r):o.wp P a w K Q:=by
 unfold dY at hop;dsimp only at hop;split at hop
 ·exact SM (.inl dk) R hd hk hop
 ·exact SM (.inr dk) R hd hk hop
 ·exact aad dk R hd hk hop
 ·exact YB dk R hd hk hop
 ·split at hop
  ·exact abC dk R hd hk hop
  ·exact aaa dk R hd hk hop
 ·exact YD dk R hd hk hop
 ·split at hop<;>try(simp at hop;done)
  obtain⟨sz,h1,hop2⟩:=bz.1 hop;obtain⟨h2,hop3⟩:=bM.1 hop2;obtain⟨zc,h3,hop4⟩:=bz.1 hop3;rw[rZ]at hop4;obtain⟨xs,h5',hop6⟩:=bz.1 hop4;obtain⟨ps,h4,h5⟩:=JD h5';obtain⟨h6,hop7⟩:=bM.1 hop6;obtain⟨h7,hop8⟩:=bM.1 hop7;clear hop hop2 hop3 hop4 hop6 hop7;rw[cM]at h7;exact IN dk R hd hk dk h1 h2 h3 h4 h5 (eC h6) (fO h7.2) h7.1 hop8
 ·exact aac dk R hd hk hop
 ·exact YI dk R hd hk hop
 ·exact PW dk R hd hk hop
 ·exact YC dk R hd hk hop
 ·exact aae dk R hd hk hop
 ·refine SJ dk R hd hk hop λe l h1 h2 h3 h4 h5 h6=>PX dk R hd hk h1 h2 h3 h4 h5 h6
 ·split at hop<;>try(simp at hop;done)
  rename_i hni hu;exact Dy dk hu (λms e=>hni ms (by first|exact e|rw[hu,e])) R hd hk hop
 ·split at hop<;>try(simp at hop;done)
  split at hop<;>try(simp at hop;done)
  exact PV dk dk R hd hk hop
 ·split at hop<;>try(simp at hop;done)
  exact YH dk R hd hk hop
 ·exact Lv dk R hd hk hop
 ·exact YE dk R hd hk hop
 ·exact Lw dk R hd hk hop
 ·exact YF dk R hd hk hop
 ·exact SK dk R hd hk hop
 ·split at hop<;>try(simp at hop;done)
  exact YG dk R hpk dk hop
 ·exact IQ dk R hd hk hop
 ·split at hop<;>try(simp at hop;done)
  exact SL dk R hd hk hop
 ·split at hop<;>try(simp at hop;done)
  exact Lx dk dk R hd hk hop
 ·exact IP (.inl dk) R hd hk hop
 ·exact IP (.inr dk) R hd hk hop
 ·exact VS dk R hd hk hop
 ·split at hop
  ·split at hop
   ·split at hop<;>try(simp at hop;done)
    exact abD dk dk dk dk R hd hk hop
   ·split at hop<;>try(simp at hop;done)
    rename_i c hc hb x y t xt hx ht;exact VO (ts:=[xt]) dk dk hx ht R hd hk bG hop
   ·split at hop<;>try(simp at hop;done)
    exact aab dk dk dk dk R hd hk hop
   ·split at hop<;>try(simp at hop;done)
    exact abE dk dk dk R hd hk hop
   ·split at hop<;>try(simp at hop;done)
    exact abF dk dk dk R hd hk hop
   ·simp at hop
  ·obtain⟨hdis,hop2⟩:=bM.1 hop;clear hop;split at hop2
   ·rename_i f caps he;have hv:=eA R he;simp only[VR]at hv;obtain⟨vs,e,hl⟩:=hv;refine SI dk dk R hd hk hpk hrho hkn hdis e ?_ hop2;generalize vs.toList=vl at hl;clear hop2 he e
    induction caps generalizing vl with
    |nil=>simpa[dV,VRL]using hl|cons c caps ih=>simp only[VRL]at hl;obtain⟨v,r,rfl,h1,h2⟩:=hl;simp only[dQ,dV];exact⟨v,r,rfl,bG,by simpa[LVR]using h1,ih r h2⟩
   ·rename_i f caps he;have hv:=λx (e:evA h s.fr x= .lclo f caps)=>e▸(cI R h x).1;replace hv:=hv _ he;simp only[LVR]at hv;obtain⟨vs,e,hl⟩:=hv;exact SI dk dk R hd hk hpk hrho hkn hdis e hl hop2
   simp_all
  ·simp at hop
 ·simp at hop
structure SetOb (s:S) (μ:Mu) (s':S) (μ':Mu) (lv ix:Nat) (o:Ob):Prop where
 fr:s'.fr=s.fr
 pushed:s'.pushed=s.pushed
 len:s'.lam.length=s.lam.length
 mlen:μ'.length=μ.length
 glen: ∀l,(μ'.getD l []).length=(μ.getD l []).length
 at_: ∀l j,bP (μ'++[s'.lam]) l j=if l=lv/\j=ix then o else bP (μ++[s.lam]) l j
def OV {μ:Mu}{lev i:Nat}(h:b6 (b7 μ lev i)):lev<μ.length/\i<(μ.getD lev []).length:=by
 unfold b7 at h;split at h
 ·rename_i l hl;split at h
  ·grind
  ·exact h.elim
 ·exact h.elim
def Hk {s:S}{μ:Mu}{i:Nat}{o:Ob}(hi:i<s.lam.length):SetOb s μ {s with lam:=s.lam.set i o} μ μ.length i o:=by
 refine⟨rfl,rfl,bG,rfl,λ_=>rfl,λl j=> ?_⟩;rcases q8 l μ.length with h|h|h
 ·rw[bP,bP,cS h,cS h,bE bu]
 ·subst h;rw[bP,bP,cV,cV,qF hi];simp
 ·rw[bP,bP,mW h,mW h,bE bu]
def Hj {s:S}{μ:Mu}{lv i:Nat}{o:Ob}(hl:lv<μ.length)(hi:i<(μ.getD lv []).length):SetOb s μ s (cq μ lv i o) lv i o:=by
 have e:μ[lv]? =some (μ.getD lv []):=by simp_all
 have em:cq μ lv i o=μ.set lv ((μ.getD lv []).set i o):=by rw[cq,e]
 refine⟨rfl,rfl,rfl,by rw[em];simp,λl=> ?_,λl j=> ?_⟩
 ·grind
 ·have hlen:(cq μ lv i o).length=μ.length:=by rw[em];simp
  rcases q8 l μ.length with h|h|h
  ·rw[bP,bP,cS (by rw[hlen];exact h),cS h,em,b7,b7];grind
  ·subst h;rw[bE bu];rw[<-hlen,bP,cV,hlen,bP,cV]
  ·rw[bP,bP,mW (by rw[hlen];exact h),mW h,bE bu]
section
variable {tm tm2:Array Value}{lv ix:Nat}{ob:Ob}{sh s2 sv:S}{μh μ2 μv:Mu}{G2:Gh}{w2:World}
def Rel.drop (R:Rel G L s μ tm w)(H:SetOb s μ sh μh lv ix .dead):
 Rel G L sh μh tm w/\(∀l b,bF G w sh.fr tm (μh++[sh.lam]) l b->bF G w s.fr tm (μ++[s.lam]) l b/\ ∀k,l≠ .ob lv ix k)/\
 (∀l j,b6 (bP (μh++[sh.lam]) l j)->b6 (bP (μ++[s.lam]) l j)/\ ¬(l=lv/\j=ix)):=by
 have hlive: ∀l j,b6 (bP (μh++[sh.lam]) l j)->b6 (bP (μ++[s.lam]) l j)/\ ¬(l=lv/\j=ix):=by
  intro l j h;rw[H.at_]at h;split at h
  ·exact h.elim
  simp_all
 have hown: ∀l b,bF G w sh.fr tm (μh++[sh.lam]) l b->bF G w s.fr tm (μ++[s.lam]) l b/\ ∀k,l≠ .ob lv ix k:=by
  intro l b h;cases l with
  |fr t=>exact⟨by rw[H.fr]at h;exact h,λk e=>by cases e⟩|ob l j k=>obtain⟨_,h2⟩:=hlive l j (i8 h);refine⟨ja (fr':=sh.fr) (tm':=tm) (by rw[H.at_,bE h2]) rfl rfl h,λk' e=> ?_⟩;simp_all
 have hμ:=R.lev;have hμh:μh.length=L:=by rw[H.mlen,hμ]
 refine ⟨⟨hμh, λt => by rw [H.fr, H.len]; exact R.fr t, λi => ?_, λlev i hlt => ?_, λlev i lev' i' h h' e => R.inj lev i lev' i' (hlive lev i h).1 (hlive lev' i' h').1 e,
  λl l' b h h'=>R.own l l' b (hown l b h).1 (hown l' b h').1,λl b lev i h h' e=>R.apart l b lev i (hown l b h).1 (hlive lev i h').1 e,λlev hlt=>by rw[H.glen];exact R.nlt lev hlt,
  by rw[H.pushed,H.len];exact R.nL,R.ngt⟩,hown,hlive⟩
 ·have e1:bQ sh.lam i=bP (μh++[sh.lam]) L i:=by rw[<-hμh];exact cV.symm
  have e2:bQ s.lam i=bP (μ++[s.lam]) L i:=by rw[<-hμ];exact cV.symm
  rw[H.len,e1,H.at_];split
  ·trivial
  ·rw[<-e2];exact R.lam i
 ·have e1:b7 μh lev i=bP (μh++[sh.lam]) lev i:=(cS bu).symm;have e2:b7 μ lev i=bP (μ++[s.lam]) lev i:=(cS bu).symm;rw[e1,H.at_];split
  ·trivial
  ·rw[<-e2];exact R.mu lev i hlt
def Rel.undrop (R:Rel G L s μ tm w)(H:SetOb s μ sh μh lv ix .dead)(hob:bP (μ++[s.lam]) lv ix=ob)(hlv:b6 ob)(hpu:lv=L->s.pushed=true)(hle:lv<=L)
 (R2:Rel G2 L s2 μ2 tm2 w2) (E:Ext L (bH G w sh μh tm) G w G2 w2 (bH G2 w2 s2 μ2 tm2)) (hd:bP (μ2++[s2.lam]) lv ix= .dead) (V:SetOb s2 μ2 sv μv lv ix ob):
 Rel G2 L sv μv tm2 w2/\Ext L (bH G w s μ tm) G w G2 w2 (bH G2 w2 sv μv tm2):=by
 obtain⟨Rh,hown,hlive⟩:=R.drop H;have hμ:=R.lev;have hμ2:=R2.lev;have hμv:μv.length=L:=by rw[V.mlen,hμ2]
 have hl0:b6 (bP (μ++[s.lam]) lv ix):=by rw[hob];exact hlv
 have hβ:G2.β lv ix=G.β lv ix/\G2.sz lv ix=G.sz lv ix:=by
  rcases jy lv L with h|h
  ·exact(E.lev lv h).1 ix
  ·have:lv=L:=bu;subst this;have hi:ix<s.lam.length:=by rw[<-hμ]at hl0;rw[bP,cV]at hl0;exact ld hl0
   exact(E.le.ref lv ix (by rw[R.nL,hpu rfl];simpa using hi)).2
 have hblk:G.β lv ix<w.heap.size/\ ¬bH G w sh μh tm (G.β lv ix):=by
  refine⟨R.touch_lt (.inr ⟨lv,ix,hl0,rfl⟩),?_⟩;rintro(⟨l,hb⟩|⟨lev,i,hb,e⟩)
  ·exact R.apart l _ lv ix (hown l _ hb).1 hl0 rfl
  ·obtain⟨h1,h2⟩:=hlive lev i hb;exact h2 (R.inj lev i lv ix h1 hl0 e)
 have hkeep:=E.keep _ hblk.1 hblk.2;have howned: ∀k b,bF G w s.fr tm (μ++[s.lam]) (.ob lv ix k) b->b<w.heap.size/\ ¬bH G w sh μh tm b:=by
  intro k b h;refine⟨R.touch_lt (.inl ⟨_,h⟩),?_⟩;rintro(⟨l,hb⟩|⟨lev,i,hb,e⟩)
  ·exact(hown l b hb).2 k (R.own l _ b (hown l b hb).1 h)
  ·exact R.apart _ b lev i h (hlive lev i hb).1 e
 have hownV: ∀l b,bF G2 w2 sv.fr tm2 (μv++[sv.lam]) l b->(b<w.heap.size/\ ¬bH G w sh μh tm b/\(∃k,l= .ob lv ix k)/\bF G w s.fr tm (μ++[s.lam]) l b)\/bF G2 w2 s2.fr tm2 (μ2++[s2.lam]) l b:=by
  intro l b h;cases l with
  |fr t=>exact .inr (by rw[V.fr]at h;exact h)|ob l j k=>
   by_cases hlj:l=lv/\j=ix
   ·obtain⟨rfl,rfl⟩:=hlj;have h3:bF G w s.fr tm (μ++[s.lam]) (.ob l j k) b:=ja (fr':=sv.fr) (tm':=tm2) (by rw[V.at_,hob];simp) hβ.1 hkeep.1 h;exact .inl ⟨(howned k b h3).1,(howned k b h3).2,⟨k,rfl⟩,h3⟩
   ·exact .inr (ja (fr':=sv.fr) (tm':=tm2) (by rw[V.at_,bE hlj]) rfl rfl h)
 have hliveV: ∀l j,b6 (bP (μv++[sv.lam]) l j)->(l=lv/\j=ix)\/b6 (bP (μ2++[s2.lam]) l j):=by
  intro l j h;rw[V.at_]at h;split at h
  ·exact .inl dk
  ·exact .inr h
 have hgrow:=E.grow
 refine ⟨⟨hμv, λt => by rw [V.fr, V.len]; exact R2.fr t, λi => ?_, λlev i hlt => ?_, λlev i lev' i' h h' e => ?_, λl l' b h h' => ?_, λl b lev i h h' e => ?_, λlev hlt => by rw [V.glen]; exact R2.nlt lev hlt,
  by rw[V.pushed,V.len];exact R2.nL,R2.ngt⟩,E.le,E.os,E.tape,E.output,E.size,λb hb hn=>E.keep b hb λht=>hn ?_,λb hb=> ?_,E.lev⟩
 ·have e1:bQ sv.lam i=bP (μv++[sv.lam]) L i:=by rw[<-hμv];exact cV.symm
  have e2:bQ s2.lam i=bP (μ2++[s2.lam]) L i:=by rw[<-hμ2];exact cV.symm
  rw[V.len,e1,V.at_];split
  ·rename_i hh;obtain⟨rfl,rfl⟩:=hh;have e3:bQ s.lam i=ob:=by rw[<-hob,<-hμ];exact cV.symm
   have hr:=R.lam i;rw[e3]at hr;have hnl: ∀j,j<s.lam.length->j<s2.lam.length/\G2.β L j=G.β L j/\G2.sz L j=G.sz L j:=by intro j hj;obtain⟨a1,a2⟩:=E.le.ref L j (by rw[R.nL,hpu rfl];simpa using hj);have:=R2.nL;refine⟨?_,a2⟩;split at this<;>omega
   rw[hβ.1,hβ.2];refine ey E.le ?_ (λj hj=>(hnl j hj).2) (λ_=>hkeep) (λcs j x cur e fz ho hx hb b' hb'=> ?_) hr
   ·rcases jy s2.lam.length s.lam.length with h|h
    ·have:=(hnl _ h).1;omega
    ·exact h
   ·have h3:bF G w s.fr tm (μ++[s.lam]) (.ob L i j) b':=by simp only[bF,hob,ho,hx];exact⟨cur,e,fz,hb,hb'⟩
    exact E.keep b' (howned j b' h3).1 (howned j b' h3).2
  ·rw[<-e2];exact R2.lam i
 ·have e1:b7 μv lev i=bP (μv++[sv.lam]) lev i:=(cS bu).symm;have e2:b7 μ2 lev i=bP (μ2++[s2.lam]) lev i:=(cS bu).symm;rw[e1,V.at_];split
  ·rename_i hh;obtain⟨rfl,rfl⟩:=hh;have e3:b7 μ lev i=ob:=by rw[<-hob];exact(cS bu).symm
   have hr:=R.mu lev i hlt;rw[e3]at hr;rw[hβ.1,hβ.2];refine ey (E.le.below lev) (cw _) (λj hj=>by omega) (λ_=>hkeep) (λcs j x cur e fz ho hx hb b' hb'=> ?_) hr;have h3:bF G w s.fr tm (μ++[s.lam]) (.ob lev i j) b':=by simp only[bF,hob,ho,hx];exact⟨cur,e,fz,hb,hb'⟩
   exact E.keep b' (howned j b' h3).1 (howned j b' h3).2
  ·rw[<-e2];exact R2.mu lev i hlt
 ·rcases hliveV lev i h with⟨rfl,rfl⟩|h1<;>rcases hliveV lev' i' h' with⟨rfl,rfl⟩|h1'
  ·exact⟨rfl,rfl⟩
  ·exfalso;rw[hβ.1]at e;rcases hgrow _ (.inr ⟨lev',i',h1',e.symm⟩)with hh|hh
   ·exact hblk.2 hh
   ·omega
  ·exfalso;rw[hβ.1]at e;rcases hgrow _ (.inr ⟨lev,i,h1,e⟩)with hh|hh
   ·exact hblk.2 hh
   ·omega
  ·exact R2.inj lev i lev' i' h1 h1' e
 ·rcases hownV l b h with⟨h1,h2,_,h3⟩|h3<;>rcases hownV l' b h' with⟨h1',h2',_,h3'⟩|h3'
  ·exact R.own l l' b h3 h3'
  ·exfalso;rcases hgrow b (.inl ⟨_,h3'⟩)with hh|hh
   ·exact h2 hh
   ·omega
  ·exfalso;rcases hgrow b (.inl ⟨_,h3⟩)with hh|hh
   ·exact h2' hh
   ·omega
  ·exact R2.own l l' b h3 h3'
 ·rcases hownV l b h with⟨h1,h2,_,h3⟩|h3<;>rcases hliveV lev i h' with⟨rfl,rfl⟩|h3'
  ·rw[hβ.1]at e;exact R.apart l b _ _ h3 hl0 e
  ·rcases hgrow b (.inr ⟨lev,i,h3',e⟩)with hh|hh
   ·exact h2 hh
   ·omega
  ·rw[hβ.1]at e;subst e;rcases hgrow _ (.inl ⟨_,h3⟩)with hh|hh
   ·exact hblk.2 hh
   ·omega
  ·exact R2.apart _ b lev i h3 h3' e
 ·rcases ht with⟨l,hb2⟩|⟨lev,i,hb2,rfl⟩
  ·exact .inl ⟨l,(hown l _ hb2).1⟩
  ·exact .inr ⟨lev,i,(hlive lev i hb2).1,rfl⟩
 ·have hTT: ∀b,bH G w sh μh tm b->bH G w s μ tm b:=by
   rintro b (⟨l,hb⟩|⟨lev,i,hb,rfl⟩)
   ·exact .inl ⟨l,(hown l _ hb).1⟩
   ·exact .inr ⟨lev,i,(hlive lev i hb).1,rfl⟩
  rcases hb with⟨l,hb⟩|⟨lev,i,hb,rfl⟩
  ·rcases hownV l b hb with⟨_,_,_,h3⟩|h3
   ·exact .inl (.inl ⟨l,h3⟩)
   ·exact(hgrow b (.inl ⟨l,h3⟩)).imp (hTT b) id
  ·rcases hliveV lev i hb with⟨rfl,rfl⟩|h3
   ·rw[hβ.1];exact .inl (.inr ⟨_,_,hl0,rfl⟩)
   ·exact(hgrow _ (.inr ⟨lev,i,h3,rfl⟩)).imp (hTT _) id
end
def lK {o:Ob}:kA o=true↔b6 o:=by cases o<;>simp[kA,b6]
def zf {o:Ob}(h:(!kA o)=true):o= .dead:=by cases o<;>simp[kA]at h |-
def Pl.lev (L:Nat):Pl->Nat
 | .own _=>L| .out lev _=>lev
def Pl.idx:Pl->Nat
 | .own i=>i| .out _ i=>i
def Ql {β:Type}{t:Nat}{k:Pl->Ob->S->Mu->Option β}{r:β}(hμ:μ.length=L)(h:gI t s μ k=some r):
 ∃pl ob sh μh,SetOb s μ sh μh (pl.lev L) pl.idx .dead/\bP (μ++[s.lam]) (pl.lev L) pl.idx=ob/\b6 ob/\(pl.lev L=L->s.pushed=true)/\pl.lev L<=L/\(∀lev i,pl= .out lev i->lev<L/\i<(μ.getD lev []).length)/\k pl ob sh μh=some r:=by
 unfold gI at h;split at h
 ·rename_i i off hf;split at h<;>try(cases h;done)
  rename_i hp;obtain⟨h1,h2⟩:=bM.1 h;have h1:=lK.1 h1;refine⟨.own i,_,_,_,?_,?_,h1,λ_=>hp,?_,(λ_ _ e=>by cases e),h2⟩
  ·simp only[Pl.lev,Pl.idx];subst hμ;exact Hk (ld h1)
  ·simp only[Pl.lev,Pl.idx];subst hμ;exact cV
  ·simp[Pl.lev]
 ·obtain⟨q,_,h⟩:=bz.1 h;obtain⟨h1,h2⟩:=bM.1 h;have h1:=lK.1 h1;obtain⟨h3,h4⟩:=OV h1;refine⟨.out q.1 q.2.1,_,_,_,Hj h3 h4,?_,h1,?_,?_,(λ_ _ e=>by injection e with e1 e2;subst e1 e2;exact⟨bu,h4⟩),h2⟩
  ·exact cS h3
  ·intro e;simp only[Pl.lev]at e;omega
  ·simp only[Pl.lev];omega
 ·cases h
def Ry {β:Type}{pl:Pl}{ob:Ob}{k:S->Mu->Option β}{r:β}{dst:Option Tmp}{v:LV}{tm:Array Value}(R:Rel G L (s.put dst v) μ tm w)(hin: ∀lev i,pl= .out lev i->lev<L/\i<G.n lev)(h:iY pl ob s μ k=some r):
 ∃sv μv,SetOb (s.put dst v) μ (sv.put dst v) μv (pl.lev L) pl.idx ob/\bP (μ++[(s.put dst v).lam]) (pl.lev L) pl.idx= .dead/\k sv μv=some r:=by
 have hμ:=R.lev;have hlam:(s.put dst v).lam=s.lam:=by cases dst<;>rfl
 cases pl with
 |own i=>
  simp only[iY]at h;obtain⟨h1,h2⟩:=bM.1 h;simp only[cM]at h1;have hi:i<s.lam.length:=by simpa[ot]using h1.1
  refine⟨_,_,?_,?_,h2⟩
  ·simp only[Pl.lev,Pl.idx];have e:S.put {s with lam:=s.lam.set i ob} dst v={s.put dst v with lam:=(s.put dst v).lam.set i ob}:=by cases dst<;>rfl
   rw[e];subst hμ;exact Hk (by rw[hlam];exact hi)
  ·simp only[Pl.lev,Pl.idx];subst hμ;rw[bP,cV,hlam];exact zf h1.2
 |out lev i=>
  simp only[iY]at h;obtain⟨h1,h2⟩:=bM.1 h;obtain⟨h3,h4⟩:=hin lev i rfl;refine⟨_,_,?_,?_,h2⟩
  ·simp only[Pl.lev,Pl.idx];exact Hj bu (by rw[<-R.nlt lev h3];exact h4)
  ·simp only[Pl.lev,Pl.idx];rw[bP,cS bu];rw[cM]at h1;exact zf h1.2
def Rk (R:Rel G L s μ a.tmps w)(hd: ∀d,o.dst=some d->d<a.tmps.size)(hk:KOK L G w s μ a o.dst k r K)(hpk:POK L G w s μ a p r Q)(hrho:gN P W0 ρ)(hkn:Kn W0 w (bH G w s μ a.tmps))
 (hop:o6 P ρ h o s μ k p=some r):o.wp P a w K Q:=by
 unfold o6 at hop;split at hop
 ·exact Ef R hd hk hpk hrho hkn hop
 ·obtain⟨pl,ob,sh,μh,H,hob,hlv,hpu,hle,hpl,hop⟩:=Ql R.lev hop;obtain⟨Rh,hown,hlive⟩:=R.drop H;have hTT: ∀b,bH G w sh μh a.tmps b->bH G w s μ a.tmps b:=by
   rintro b (⟨l,hb⟩|⟨lev,i,hb,rfl⟩)
   ·exact .inl ⟨l,(hown l _ hb).1⟩
   ·exact .inr ⟨lev,i,(hlive lev i hb).1,rfl⟩
  have hin: ∀{G2:Gh} {w2:World} {T2:Nat->Prop},Ext L (bH G w sh μh a.tmps) G w G2 w2 T2-> ∀lev i,pl= .out lev i->lev<L/\i<G2.n lev:=by intro G2 w2 T2 E lev i e;obtain⟨h1,h2⟩:=hpl lev i e;exact⟨h1,by rw[(E.lev lev h1).2,R.nlt lev h1];exact h2⟩
  refine Ef Rh hd ?_ ?_ hrho (hkn.mono hTT) hop
  ·intro v s' μ' cv w' G' hk2 R' E';obtain⟨sv,μv,V,hdead,hk3⟩:=Ry R' (hin E') hk2;obtain⟨RV,EV⟩:=R.undrop H hob hlv hpu hle R' E' hdead V;exact hk v sv μv cv w' G' hk3 RV EV
  ·intro v s' μ' pv w' G' hk2 R' hv E';exact hpk v s' μ' pv w' G' hk2 R' hv ((Ext.refl G w hTT).trans E')
def KOK.ext {G1:Gh}{s1:S}{μ1:Mu}(E:Ext L (bH G w s μ a.tmps) G w G1 w (bH G1 w s1 μ1 a.tmps)){dst:Option Tmp}(hk:KOK L G w s μ a dst k r K):KOK L G1 w s1 μ1 a dst k r K:=
 λv s' μ' cv w' G' h R E'=>hk v s' μ' cv w' G' h R (E.trans E')
def POK.ext {G1:Gh}{s1:S}{μ1:Mu}(E:Ext L (bH G w s μ a.tmps) G w G1 w (bH G1 w s1 μ1 a.tmps))(hk:POK L G w s μ a p r Q):POK L G1 w s1 μ1 a p r Q:=
 λv s' μ' cv w' G' h R hv E'=>hk v s' μ' cv w' G' h R hv (E.trans E')
def qK (R:Rel G L s μ a.tmps w)(hd: ∀d,o.dst=some d->d<a.tmps.size)(hk:KOK L G w s μ a o.dst k r K)(hpk:POK L G w s μ a p r Q)(hrho:gN P W0 ρ)(hkn:Kn W0 w (bH G w s μ a.tmps))
 (hop:opK P ρ h o s μ k p=some r):o.wp P a w K Q:=by
 unfold opK at hop;obtain⟨s1,h1,hop⟩:=bz.1 hop;rw[pJ]at hop;obtain⟨s2,h2,hop⟩:=bz.1 hop;obtain⟨G1,R1,E1⟩:=xG h1 R;obtain⟨G2,R2,E2⟩:=sP h2 R1;exact Rk R2 hd (hk.ext (E1.trans E2)) (hpk.ext (E1.trans E2)) hrho (hkn.ext (E1.trans E2)) hop
end
section
variable {P:Program}{W0:World}{ρ:Rho}{α:Type}{L:Nat}{H:Hints}{rg:Nat}{ops:Array Oper}{r:α}{Q:Exit->Act->World->Prop}
structure Keep where
 ds:List Deferred
 kp:Option (Nat×Value)
def Keep.at (K:Keep)(a:Act):Prop:=a.defers=K.ds/\ ∀t v,K.kp=some (t,v)->a.tmps.getD t undef=v
def Keep.slot (K:Keep):Option Nat:=match K.kp with|some q=>some q.1|none=>none
def Keep.lets (K:Keep)(d:Nat):Prop:= ∀t v,K.kp=some (t,v)->d≠t
def Keep.put {K:Keep}{a:Act}(h:K.at a){dst:Option Tmp}{v:Value}(hd: ∀d,dst=some d->K.lets d):K.at (a.put dst v):=by
 cases dst with|none=>exact h|some d=>refine⟨h.1,λt u e=> ?_⟩;have hne:=hd d rfl t u e;rw[<-h.2 t u e];simp only[Act.put,d7,Array.getElem?_setIfInBounds];simp_all
def Pw {α:Type}(L:Nat)(G:Gh)(w:World)(T:Nat->Prop)(n:Nat)(ds:Keep)(k:S->Mu->Option α)(r:α)(Q:Exit->Act->World->Prop):Prop:=
 ∀s μ a w' G',k s μ=some r->Rel G' L s μ a.tmps w'->Ext L T G w G' w' (bH G' w' s μ a.tmps)->a.tmps.size=n->ds.at a->Q .normal a w'
def Fe {α:Type}(L:Nat)(G:Gh)(w:World)(T:Nat->Prop)(n:Nat)(ds:Keep)(p:CV->S->Mu->Option α)(r:α)(Q:Exit->Act->World->Prop):Prop:=
 ∀v s μ pv a w' G',p v s μ=some r->Rel G' L s μ a.tmps w'->VR G' w' v pv->Ext L T G w G' w' (bH G' w' s μ a.tmps)->a.tmps.size=n->ds.at a->Q (.panic [{v:=pv,recovered:=false}]) a w'
def Xz (g:Fr)(t:Nat)(v:LV)(h:g t=v):upd g t v=g:=by
 funext u;by_cases hu:u=t
 ·subst hu;rw[jt,h]
 ·rw[iA g v hu]
def S.set_self (s:S)(t:Nat)(v:LV)(h:s.fr t=v):s.set t v=s:=by unfold S.set;rw[Xz s.fr t v h]
def nN (a:Act)(d:Option Tmp)(v:Value):(a.put d v).tmps.size=a.tmps.size/\(a.put d v).defers=a.defers:=by cases d<;>simp[Act.put]
def EP {G:Gh}{w:World}{s:S}{μ:Mu}{a:Act}(R:Rel G L s μ a.tmps w){j d:Nat}{b:Bool}(hd:rC ops j=some d)(hlt: ∀(i:Nat) (o:Oper),ops[i]? =some o-> ∀d,o.dst=some d->d<a.tmps.size)
 (hb:ce (s.fr d)=some b):yielded ops a.tmps j=some b:=by
 have hv:=R.fr d;rw[iT hb]at hv;simp only[LVR,VR]at hv;unfold rC at hd;cases ho:ops[j]? with
 |none=>rw[ho]at hd;simp at hd|some o=>
  rw[ho]at hd;have hd:o.dst=some d:=hd;have hsz:=hlt j o ho d hd;have:a.tmps[d]? =some (.bool b):=by simp_all
  simp[yielded,ho,hd,this]
def ny {v:LV}{b:Bool}(h:gH v=some (some b)):ce v=some b:=by
 unfold gH at h;split at h
 ·simpa[ce]using h
 ·simp at h
 ·simp at h
def HA {v:LV}(h:gH v=some none): ∃cs,v= .cv (.v (.tuple cs)):=by unfold gH at h;grind
def Ah {G:Gh}{w:World}{s:S}{μ:Mu}{a:Act}(R:Rel G L s μ a.tmps w){j d:Nat}(hd:rC ops j=some d)(hlt: ∀(i:Nat) (o:Oper),ops[i]? =some o-> ∀d,o.dst=some d->d<a.tmps.size)
 (hb:gH (s.fr d)=some none):yielded ops a.tmps j=none:=by
 have hv:=R.fr d;obtain⟨cs,e⟩:=HA hb;rw[e]at hv;simp only[LVR,VR]at hv;unfold rC at hd;cases ho:ops[j]? with
 |none=>rw[ho]at hd;simp at hd|some o=>
  rw[ho]at hd;have hd:o.dst=some d:=hd;have hsz:=hlt j o ho d hd;have:a.tmps[d]? =some (.tuple cs):=by simp_all
  simp[yielded,ho,hd,this]
def Rel.skip {G:Gh}{w:World}{s:S}{μ:Mu}{a:Act}(R:Rel G L s μ a.tmps w)(dst:Option Tmp)(hd: ∀d,dst=some d->d<a.tmps.size):
 Rel G L (s.put dst (.cv (.v undef))) μ (a.put dst undef).tmps w/\Ext L (bH G w s μ a.tmps) G w G w (bH G w (s.put dst (.cv (.v undef))) μ (a.put dst undef).tmps):=
 ex R (Ext.refl G w λ_ h=>h) (by simp[LVR,VR]) (λb hb=>by simp[bZ]at hb) hd
def ll (hrho:gN P W0 ρ){T:Nat->Prop}{G0:Gh}{w0:World}{n:Nat}{ds:Keep}{k:S->Mu->Option α}{p:CV->S->Mu->Option α}(hlt: ∀(i:Nat) (o:Oper),ops[i]? =some o-> ∀d,o.dst=some d->d<n/\ds.lets d)
 (hkn:Kn W0 w0 T) (hk:Pw L G0 w0 T n ds k r Q) (hp:Fe L G0 w0 T n ds p r Q):
 ∀(l:List Nat) {G:Gh} {w:World} {s:S} {μ:Mu} {a:Act},gq P ρ H rg ops l s μ k p=some r->Rel G L s μ a.tmps w->Ext L T G0 w0 G w (bH G w s μ a.tmps)->a.tmps.size=n->ds.at a->wpOps P ops Q l a w
 |[],G,w,s,μ,a,h,R,E,hn,hds=>by simp only[gq]at h;simp only[wpOps];exact hk s μ a w G h R E hn hds|i::rest,G,w,s,μ,a,h,R,E,hn,hds=>by
  simp only[gq]at h;simp only[wpOps];cases ho:ops[i]? with
  |none=>rw[ho]at h;simp at h|some o=>
   rw[ho]at h;simp only at h |-;have hlt': ∀d,o.dst=some d->d<a.tmps.size:=λd hd=>by rw[hn];exact(hlt i o ho d hd).1
   have hlt2: ∀(i:Nat) (o:Oper),ops[i]? =some o-> ∀d,o.dst=some d->d<a.tmps.size:=λi o ho d hd=>by rw[hn];exact(hlt i o ho d hd).1
   have hkok:KOK L G w s μ a o.dst (λv s μ=>gq P ρ H rg ops rest (s.put o.dst v) μ k p) r (wpOps P ops Q rest):=by intro v s' μ' cv w' G' h' R' E';exact ll hrho hlt hkn hk hp rest h' R' (E.trans E') (by rw[(nN a o.dst cv).1];exact hn) (Keep.put hds λd hd=>(hlt i o ho d hd).2)
   have hpok:POK L G w s μ a p r Q:=λv s' μ' pv w' G' h' R' hv E'=>hp v s' μ' pv a w' G' h' R' hv (E.trans E') hn hds;cases hg:o.guard with
   |none=>
    rw[hg]at h;have hw:Region.wanted o (yielded ops a.tmps)=true:=by simp[Region.wanted,hg]
    rw[bK hw];exact .inl (qK R hlt' hkok hpok hrho (hkn.ext E) h)
   |some g=>
    rw[hg]at h;simp only at h;obtain⟨d,hd,h⟩:=bz.1 h;obtain⟨q,hq,h⟩:=bz.1 h;cases q with
    |none=>
     have hy:=Ah R hd hlt2 hq;obtain⟨j,want⟩:=g;simp only at hd hy h;have hw: ¬Region.wanted o (yielded ops a.tmps)=true:=by simp[Region.wanted,hg,hy]
     rw[bE hw];obtain⟨R2,E2⟩:=R.skip o.dst hlt';exact ll hrho hlt hkn hk hp rest h R2 (E.trans E2) (by rw[(nN a o.dst undef).1];exact hn) (Keep.put hds λd hd=>(hlt i o ho d hd).2)
    |some b=>
    have hb:=ny hq;have hy:=EP R hd hlt2 hb;have hbe:=iT hb;obtain⟨j,want⟩:=g;simp only at hd hy h;cases b with
    |true=>
     rw[S.set_self s d _ hbe]at h;simp only[bY]at h;cases want with
     |true=>
      have hw:Region.wanted o (yielded ops a.tmps)=true:=by simp[Region.wanted,hg,hy]
      rw[bK hw];exact .inl (qK R hlt' hkok hpok hrho (hkn.ext E) h)
     |false=>
      have hw: ¬Region.wanted o (yielded ops a.tmps)=true:=by simp[Region.wanted,hg,hy]
      rw[bE hw];obtain⟨R2,E2⟩:=R.skip o.dst hlt';exact ll hrho hlt hkn hk hp rest h R2 (E.trans E2) (by rw[(nN a o.dst undef).1];exact hn) (Keep.put hds λd hd=>(hlt i o ho d hd).2)
    |false=>
     rw[S.set_self s d _ hbe]at h;simp only[bW]at h;cases want with
     |false=>
      have hw:Region.wanted o (yielded ops a.tmps)=true:=by simp[Region.wanted,hg,hy]
      rw[bK hw];exact .inl (qK R hlt' hkok hpok hrho (hkn.ext E) h)
     |true=>
      have hw: ¬Region.wanted o (yielded ops a.tmps)=true:=by simp[Region.wanted,hg,hy]
      rw[bE hw];obtain⟨R2,E2⟩:=R.skip o.dst hlt';exact ll hrho hlt hkn hk hp rest h R2 (E.trans E2) (by rw[(nN a o.dst undef).1];exact hn) (Keep.put hds λd hd=>(hlt i o ho d hd).2)
def P8 {n:Nat}{ds:Keep}{d:Nat}(h:P7 n ds.slot d=true):d<n/\ds.lets d:=by
 unfold P7 at h;split at h
 ·rename_i hb;refine⟨by simpa[ot]using hb,λt v e hdt=> ?_⟩;simp only[Keep.slot,e]at h;simp_all
 ·cases h
def o7 {n:Nat}{ds:Keep}: ∀{l:List Oper},qL n ds.slot l=true-> ∀{i:Nat} {o:Oper},l[i]? =some o-> ∀d,o.dst=some d->d<n/\ds.lets d
 |[],_,i,o,h,d,_=>by simp at h|x::r,hl,i,o,h,d,hd=>by
  have key:qL n ds.slot r=true/\ ∀d,x.dst=some d->d<n/\ds.lets d:=by
   simp only[qL]at hl;split at hl
   ·simp_all
   ·rename_i d' e;split at hl
    ·rename_i hb;exact⟨hl,λd hd=>by rw[e]at hd;injection hd with hd;subst hd;exact P8 hb⟩
    ·simp at hl
  cases i with|zero=>simp only[eu,bJ]at h;subst h;exact key.2 d hd|succ i=>exact o7 key.1 (by simpa using h) d hd
end
section
variable {α β γ:Type}
def bV {x:Option α}{f:α->Option β}{k:β->Option γ}:opt (opt x f) k=opt x λa=>opt (f a) k:=by cases x<;>rfl
def cU {b:Bool}{x:Option β}{k:β->Option γ}:opt (bB b x) k=bB b (opt x k):=by cases b<;>rfl
theorem iJ {k:β->Option γ}:opt (none:Option β) k=none:=rfl
theorem cF {a:β}{k:β->Option γ}:opt (some a) k=k a:=rfl
def GV {d:TypeDesc}{x:LV}{f:CV->Option β}{k:β->Option γ}:opt (kf d x f) k=kf d x λc=>opt (f c) k:=by unfold kf;cases d<;>exact bV
def xa: ∀{ds:List TypeDesc} {cs:List CV} {f:List CV->Option β} {k:β->Option γ},opt (f9 ds cs f) k=f9 ds cs λc=>opt (f c) k
 |[],cs,f,k=>by unfold f9;exact bV|d::ds,cs,f,k=>by unfold f9;simp only[bV,GV,xa]
variable {P:Program}
def o4 {t:TypeId}{x:LV}{f:CV->Option β}{k:β->Option γ}:opt (js P t x f) k=js P t x λc=>opt (f c) k:=by
 unfold js;cases dz P t
 ·cases P.underlying t
  ·rfl
  ·exact GV
 ·cases DO P t<;>simp only[bV,xa]
def D8 {own:Bool}{t:TypeId}{x:LV}{f:LV->Option β}{k:β->Option γ}:opt (nk P own t x f) k=nk P own t x λc=>opt (f c) k:=by
 unfold nk;cases own
 ·exact o4
 ·exact bV
def zy: ∀{ts:List TypeId} {xs:List LV} {f:List LV->Option β} {k:β->Option γ},opt (im P ts xs f) k=im P ts xs λc=>opt (f c) k
 |[],xs,f,k=>by unfold im;exact bV|t::ts,xs,f,k=>by unfold im;simp only[bV,D8,zy]
def jQ {own:Bool}{t:TypeId}{x:LV}{f:LV->Option β}{k:β->Option γ}:opt (eP P own t x f) k=eP P own t x λc=>opt (f c) k:=by
 unfold eP;split
 ·simp only[bV,zy]
 ·exact D8
def Bz {b:Bool}{t:TypeId}{x:LV}{f:LV->Option β}{k:β->Option γ}:opt (oh P b t x f) k=oh P b t x λc=>opt (f c) k:=by
 cases b with|true=>exact jQ|false=>rfl
def Uc {h:OpHint}{t:TypeId}{a:LV}{s:S}{μ:Mu}{f:LV->S->Mu->Option β}{k:β->Option γ}:opt (jA P h t a s μ f) k=jA P h t a s μ λv s μ=>opt (f v s μ) k:=by
 unfold jA;split
 ·split
  ·rfl
  ·split
   ·simp only[bV,Bz]
   ·exact bV
 ·split
  ·simp only[bV]
  ·simp only[bV];congr;funext q;split<;>simp only[bV,jQ]
 ·rfl
def QE {h:OpHint}{t:TypeId}{a v:LV}{s:S}{μ:Mu}{f:LV->S->Mu->Option β}{k:β->Option γ}:opt (lC P h t a v s μ f) k=lC P h t a v s μ λv s μ=>opt (f v s μ) k:=by
 unfold lC;split
 ·split
  ·rfl
  ·simp only[qg];exact bV
 ·split
  ·rfl
  ·simp only[bV,cU]
 ·rfl
def ve {h:OpHint}{t:TypeId}{a:LV}{i:Nat}{f:LV->Option β}{k:β->Option γ}:opt (iS P h t a i f) k=iS P h t a i λc=>opt (f c) k:=by
 unfold iS;simp only[bV];congr;funext q;split
 ·rfl
 ·split
  ·simp only[bV,xa,cU]
  ·simp only[bV]
 ·rfl
def GW {b:Bool}{m:Nat}{c:CV}{f:LV->Option β}{k:β->Option γ}:opt (oM b m c f) k=oM b m c λv=>opt (f v) k:=by
 cases b
 ·simp only[oM,cU]
 ·simp only[oM,cU]
def vf {h:OpHint}{t:TypeId}{a:LV}{i:Int}{f:LV->Option β}{k:β->Option γ}:opt (iU P h t a i f) k=iU P h t a i λc=>opt (f c) k:=by
 unfold iU iL;split
 ·simp only[bV];congr;funext q;split
  ·exact cU
  ·simp only[bV,o4,GW]
  ·split<;>simp only[bV,o4,cU,GW]
  ·rfl
 ·simp only[bV];congr;funext q;split
  ·exact cU
  ·split<;>simp only[bV,cU]
  ·rfl
 ·rfl
def D6 {t:TypeId}{a:LV}{i:Int}{f:LV->Option β}{k:β->Option γ}:opt (oS P t a i f) k=oS P t a i λc=>opt (f c) k:=by
 unfold oS iL;split
 ·simp only[bV]
 ·split
  ·simp only[bV,cU,o4]
  ·rfl
 ·rfl
def D5 {ev:Operand->LV}{x:Option Operand}{d:Int}{f:Int->Option β}{k:β->Option γ}:opt (fl ev x d f) k=fl ev x d λc=>opt (f c) k:=by
 unfold fl;cases x
 ·rfl
 ·exact bV
def D7 {t:TypeId}{x:LV}{lo hi:Option Operand}{ev:Operand->LV}{f:LV->Option β}{k:β->Option γ}:opt (lA P t x lo hi ev f) k=lA P t x lo hi ev λc=>opt (f c) k:=by
 unfold lA;split
 ·simp only[bV,D5]
 ·simp only[bV];congr;funext q;split<;>simp only[bV,D5,cU,iJ]
 ·rfl
def Bx {h:OpHint}{t:TypeId}{xt:Option TypeId}{x y:LV}{s:S}{μ:Mu}{f:LV->S->Mu->Option β}{k:β->Option γ}:opt (mF P h t xt x y s μ f) k=mF P h t xt x y s μ λv s μ=>opt (f v s μ) k:=by
 unfold mF;split
 ·cases xt
  ·simp only[bV,cU,iJ]
  ·simp only[bV,cU];congr;funext q;congr;funext q;congr;cases h.own
   ·simp only[bV];congr;funext q;split<;>simp only[bV,cU,iJ]
   ·simp only[bV];congr;funext q;split<;>simp only[bV,cU,iJ]
 ·rfl
def zx {h:OpHint}{src dst:TypeId}{x:LV}{s:S}{μ:Mu}{f:LV->S->Mu->Option β}{k:β->Option γ}:opt (fy P h src dst x s μ f) k=fy P h src dst x s μ λv s μ=>opt (f v s μ) k:=by
 unfold fy;split
 ·split<;>simp only[bV,iJ]
 ·split
  ·simp only[bV]
  ·split
   ·split
    ·split<;>simp only[bV,cU,iJ]
    ·simp only[bV]
   ·rfl
  ·rfl
 ·split
  ·split
   ·simp only[bV,cU];grind
   ·rfl
  ·rfl
 ·rfl
def Xa {x:Option α}{f:α->Option β}{g:Option β}{k:β->Option γ}:opt (optE x f g) k=optE x (λa=>opt (f a) k) (opt g k):=by cases x<;>rfl
def By {t:TypeId}{m x y:LV}{s:S}{μ:Mu}{f:LV->S->Mu->Option β}{k:β->Option γ}:opt (lL P t m x y s μ f) k=lL P t m x y s μ λv s μ=>opt (f v s μ) k:=by
 unfold lL;simp only[bV];congr;funext q;congr;funext q2;congr;funext q3;split
 ·split<;>first|exact cU|rfl
 ·split<;>first|exact cU|rfl
 ·rfl
def LW {t:TypeId}{m x:LV}{ok:Bool}{s:S}{μ:Mu}{f:LV->Option β}{k:β->Option γ}:opt (mT P t m x ok s μ f) k=mT P t m x ok s μ λv=>opt (f v) k:=by unfold mT iL;cases ok<;>simp only[bV,cU,Xa,o4]
def LU {x:LV}{t:TypeId}{ok:Bool}{f:LV->Option β}{k:β->Option γ}:opt (mH P x t ok f) k=mH P x t ok λv=>opt (f v) k:=by
 unfold mH;split
 ·rfl
 ·split
  ·rfl
  ·simp only[bV];congr;funext z;split
   ·split<;>rfl
   ·rfl
   ·rfl
 ·rfl
def JL {op:BinOp}{t:TypeId}{x y:Operand}{a b:LV}{f:CV->Option β}{k:β->Option γ}:opt (um P op t x y a b f) k=um P op t x y a b λc=>opt (f c) k:=by
 unfold um;split
 ·simp only[bV]
 ·simp only[bV,cU]
variable {ρ:Rho}
def GU {x:Option Out}{f:LV->Mu->Option β}{p:CV->Mu->Option β}{k:β->Option γ}:opt (callK x f p) k=callK x (λv μ=>opt (f v μ) k) λv μ=>opt (p v μ) k:=by unfold callK;rw[bV];grind
def rH {h:OpHint}{t:TypeId}{g:FuncId}{args:List LV}{s:S}{μ:Mu}{f:LV->S->Mu->Option β}{p:CV->S->Mu->Option β}{k:β->Option γ}:
 opt (gG P ρ h t g args s μ f p) k=gG P ρ h t g args s μ (λv s μ=>opt (f v s μ) k) λv s μ=>opt (p v s μ) k:=by
 unfold gG;split
 ·simp only[cU,GU,jQ]
 ·simp only[bV,GU,jQ]
def CK {h:OpHint}{o:Oper}{s:S}{μ:Mu}{f:LV->S->Mu->Option β}{p:CV->S->Mu->Option β}{k:β->Option γ}:
 opt (dY P ρ h o s μ f p) k=dY P ρ h o s μ (λv s μ=>opt (f v s μ) k) λv s μ=>opt (p v s μ) k:=by
 unfold dY;dsimp only;split
 ·rfl
 ·rfl
 ·exact bV
 ·exact bV
 ·split
  ·simp only[oI,bV]
  ·simp only[bV,cU]
 ·simp only[tQ,bV]
 ·split
  ·simp only[rZ,bV,cU];grind
  ·rfl
 ·exact Uc
 ·exact QE
 ·simp only[bV,cU]
 ·exact JL
 ·exact bV
 ·exact zx
 ·split<;>simp only[bV,iJ]
 ·split
  ·split<;>rfl
  ·rfl
 ·split
  ·exact D7
  ·rfl
 ·exact ve
 ·exact bV
 ·simp only[bV,vf]
 ·simp only[bV,D6]
 ·simp only[bV]
 ·split<;>rfl
 ·exact LU
 ·split<;>rfl
 ·split
  ·unfold D3;split
   ·simp only[bV,cU]
   ·rfl
  ·rfl
 ·exact By
 ·exact By
 ·exact LW
 ·split
  ·split
   ·split<;>simp only[bV,iJ]
   ·split
    ·exact Bx
    ·rfl
   ·split
    ·unfold DD;split
     ·simp only[bV];congr;funext q;split
      ·split
       ·simp only[bV,cU]
       ·rfl
      ·rfl
     ·rfl
    ·rfl
   ·split<;>simp only[bV,iJ]
   ·split<;>simp only[bV,iJ]
   ·rfl
  ·rw[cU];congr;split
   ·exact rH
   ·exact rH
   ·rfl
  ·rfl
 ·rfl
def cP (P:Program)(ρ:Rho)(h:OpHint)(o:Oper)(s:S)(μ:Mu):Option (LV×S×Mu):=dY P ρ h o s μ (λv s μ=>some (v,s,μ)) λ_ _ _=>none
def Ha {h:OpHint}{o:Oper}{s:S}{μ:Mu}{f:LV->S->Mu->Option β}:dY P ρ h o s μ f (λ_ _ _=>none)=opt (cP P ρ h o s μ) λq=>f q.1 q.2.1 q.2.2:=by unfold cP;rw[CK];rfl
def GX {t:Nat}{s:S}{μ:Mu}{k:Pl->Ob->S->Mu->Option β}{f:β->Option γ}:opt (gI t s μ k) f=gI t s μ λpl ob s μ=>opt (k pl ob s μ) f:=by
 unfold gI;split
 ·split
  ·exact cU
  ·rfl
 ·simp only[bV,cU]
 ·rfl
def GY {pl:Pl}{ob:Ob}{s:S}{μ:Mu}{k:S->Mu->Option β}{f:β->Option γ}:opt (iY pl ob s μ k) f=iY pl ob s μ λs μ=>opt (k s μ) f:=by unfold iY;split<;>exact cU
def lq (P:Program)(ρ:Rho)(h:OpHint)(o:Oper)(s:S)(μ:Mu):Option (LV×S×Mu):=
 match h.hide with
 |none=>cP P ρ h o s μ|some t=>gI t s μ λpl ob s μ=>opt (cP P ρ h o s μ) λq=>iY pl ob q.2.1 q.2.2 λs μ=>some (q.1,s,μ)
def Hb {h:OpHint}{o:Oper}{s:S}{μ:Mu}{f:LV->S->Mu->Option β}:o6 P ρ h o s μ f (λ_ _ _=>none)=opt (lq P ρ h o s μ) λq=>f q.1 q.2.1 q.2.2:=by
 unfold o6 lq;cases h.hide with|none=>exact Ha|some t=>simp only[Ha,GX,GY,bV,cF]
end
def Ag (h:OpHint)(o:Oper)(s t:S):Prop:= ∀x,x∈o.op.operands.toList->evA h t.fr x=evA h s.fr x
section
variable {P:Program}{ρ:Rho}{h:OpHint}{o:Oper}{s t:S}{μ ν:Mu}
def ed (P:Program)(ρ:Rho)(h:OpHint)(o:Oper)(s t:S)(μ ν:Mu):Prop:=cP P ρ h o t ν=opt (cP P ρ h o s μ) λq=>some (q.1,bw h.take t,ν)
def O9 {x:Operand}(ho:o.op= .move x\/o.op= .assign x)(ha:Ag h o s t):ed P ρ h o s t μ ν:=by have e:evA h t.fr x=evA h s.fr x:=ha x (by rcases ho with ho|ho<;>simp[ho,Op.operands]);rcases ho with ho|ho<;>simp only[ed,cP,dY,ho,e,cF]
def ZH {c x y:Operand}(ho:o.op= .pick c x y)(ha:Ag h o s t):ed P ρ h o s t μ ν:=by have e1:=ha c (by simp[ho,Op.operands]);have e2:=ha x (by simp[ho,Op.operands]);have e3:=ha y (by simp[ho,Op.operands]);simp only[ed,cP,dY,ho,e1,e2,e3,bV,cF]
def Xf {ty:TypeId}{parts:Array (Nat×Operand)}(ho:o.op= .build ty parts)(ha:Ag h o s t):ed P ρ h o s t μ ν:=by have e:oF P ty (evA h t.fr) parts.toList=oF P ty (evA h s.fr) parts.toList:=IK λq hq=>ha q.2 (by simp only[ho,Op.operands];simp;exact⟨q.1,by simpa using hq⟩);simp only[ed,cP,dY,ho,tQ,e,bV,cF]
def ZG {e:TypeId}{x:Operand}(ho:o.op= .box e x)(hr:h.cell=true)(ha:Ag h o s t):ed P ρ h o s t μ ν:=by have e:=ha x (by simp[ho,Op.operands]);simp only[ed,cP,dY,ho,hr,e,bV,cU,cF]
def Ni {x:Operand}(ho:o.op= .nilCheck x)(ha:Ag h o s t):ed P ρ h o s t μ ν:=by have e:=ha x (by simp[ho,Op.operands]);simp only[ed,cP,dY,ho,e,bV,cU,cF]
def Xe {op:BinOp}{ty ty':TypeId}{x y:Operand}(ho:o.op= .binOp op ty x y ty')(ha:Ag h o s t):ed P ρ h o s t μ ν:=by have e1:=ha x (by simp[ho,Op.operands]);have e2:=ha y (by simp[ho,Op.operands]);simp only[ed,cP,dY,ho,e1,e2,JL,cF]
def ZI {op:UnOp}{ty:TypeId}{x:Operand}(ho:o.op= .unOp op ty x)(ha:Ag h o s t):ed P ρ h o s t μ ν:=by have e:=ha x (by simp[ho,Op.operands]);simp only[ed,cP,dY,ho,e,bV,cF]
def CR {ty:TypeId}{x:Operand}(ho:o.op= .makeInterface ty x)(ha:Ag h o s t):ed P ρ h o s t μ ν:=by have e:=ha x (by simp[ho,Op.operands]);simp only[ed,cP,dY,ho,e];split<;>simp only[bV,cF,iJ]
def KP {ty:TypeId}{x:Operand}{f:Nat}(ho:o.op= .fieldAddr ty x f)(ha:Ag h o s t):ed P ρ h o s t μ ν:=by have e:=ha x (by simp[ho,Op.operands]);simp only[ed,cP,dY,ho,e,ve,cF]
def Xg {ty:TypeId}{x:Operand}{f:Nat}(ho:o.op= .field ty x f)(ha:Ag h o s t):ed P ρ h o s t μ ν:=by have e:=ha x (by simp[ho,Op.operands]);simp only[ed,cP,dY,ho,e,bV,cF]
def KQ {ty:TypeId}{x y:Operand}(ho:o.op= .indexAddr ty x y)(ha:Ag h o s t):ed P ρ h o s t μ ν:=by have e1:=ha x (by simp[ho,Op.operands]);have e2:=ha y (by simp[ho,Op.operands]);simp only[ed,cP,dY,ho,e1,e2,bV,vf,cF]
def Xh {ty:TypeId}{x y:Operand}(ho:o.op= .index ty x y)(ha:Ag h o s t):ed P ρ h o s t μ ν:=by have e1:=ha x (by simp[ho,Op.operands]);have e2:=ha y (by simp[ho,Op.operands]);simp only[ed,cP,dY,ho,e1,e2,bV,D6,cF]
def Rp {x:Operand}{i:Nat}(ho:o.op= .extract x i)(ha:Ag h o s t):ed P ρ h o s t μ ν:=by have e:=ha x (by simp[ho,Op.operands]);simp only[ed,cP,dY,ho,e,bV,cF]
def y0 {β:Type}{ev ev':Operand->LV}{x:Option Operand}{d:Int}{f:Int->Option β}(h: ∀y,x=some y->ev' y=ev y):fl ev' x d f=fl ev x d f:=by
 cases x with|none=>rfl|some y=>simp only[fl,h y rfl]
def K6 {β:Type}{ty:TypeId}{x:LV}{lo hi:Option Operand}{ev ev':Operand->LV}{f:LV->Option β}(h1: ∀y,lo=some y->ev' y=ev y)(h2: ∀y,hi=some y->ev' y=ev y):lA P ty x lo hi ev' f=lA P ty x lo hi ev f:=by unfold lA;simp only[y0 h1,y0 h2]
def Xi {ty:TypeId}{x:Operand}{lo hi mx:Option Operand}(ho:o.op= .slice ty x lo hi mx)(ha:Ag h o s t):ed P ρ h o s t μ ν:=by
 have e:=ha x (by simp[ho,Op.operands]);have e1: ∀y,lo=some y->evA h t.fr y=evA h s.fr y:=λy hy=>ha y (by simp[ho,Op.operands,hy]);have e2: ∀y,hi=some y->evA h t.fr y=evA h s.fr y:=λy hy=>ha y (by simp[ho,Op.operands,hy]);simp only[ed,cP,dY,ho,e];cases mx with|none=>simp only[K6 e1 e2,D7,cF]|some m=>rfl
def HE {ty:TypeId}{len:Nat}{parts:Array (Nat×Operand)}(ho:o.op= .buildSlice ty len parts)(hr:h.arr=false)(ha:Ag h o s t):ed P ρ h o s t μ ν:=by have e: ∀b sz,rf b sz (evA h t.fr) 0 parts.toList=rf b sz (evA h s.fr) 0 parts.toList:=λb sz=>w8 λq hq=>ha q.2 (by simp only[ho,Op.operands];simp;exact⟨q.1,by simpa using hq⟩);simp only[ed,cP,dY,ho,rZ,e,hr];split<;>simp only[bV,cU,cF,iJ]
def Nh {fn:Fn}{first captured:Array Operand}(ho:o.op= .makeFunc fn first captured)(ha:Ag h o s t):ed P ρ h o s t μ ν:=by
 have e:(captured.toList.map λx=>strip1 (evA h t.fr x))=captured.toList.map λx=>strip1 (evA h s.fr x):=vS λx hx=>by rw[ha x (by simp[ho,Op.operands];right;simpa using hx)]
 simp only[ed,cP,dY,ho,e];split
 ·split<;>rfl
 ·rfl
def Ro {c:Call}{b:Builtin}(ho:o.op= .call c)(hc:c.callee= .builtin b)(hb:b≠ .copy)(ha:Ag h o s t):ed P ρ h o s t μ ν:=by
 have hm: ∀x,x∈c.args.toList->evA h t.fr x=evA h s.fr x:=λx hx=>ha x (by simp[ho,Op.operands,Call.operands,hc];simpa using hx);simp only[ed,cP,dY,ho,hc];split
 ·split
  ·rename_i x ty hx _;rw[hm x (by rw[hx];simp)];simp only[bV,cF]
  ·rfl
 ·split
  ·rename_i x y ty xt hx _;rw[hm x (by rw[hx];simp),hm y (by rw[hx];simp),Bx];rfl
  ·rfl
 ·simp_all
 ·split
  ·rename_i x y hx;rw[hm x (by rw[hx];simp),hm y (by rw[hx];simp)];simp only[bV,cF]
  ·rfl
 ·split
  ·rename_i x y hx;rw[hm x (by rw[hx];simp),hm y (by rw[hx];simp)];simp only[bV,cF]
  ·rfl
 ·rfl
end
end Go.Abs
