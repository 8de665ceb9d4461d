/-
  The statement ExprTokensCardSaid, proved; part 3 of 11 of its proof.
-/
import Derived.Test.YtmemoghbijcebaaGreatDoorT1
import Derived.MapKept
set_option linter.all false
namespace Go.Abs
open Go
section
variable {P:Program}{ρ:Rho}{α:Type}{L:Nat}{G:Gh}{w:World}{s:S}{μ:Mu}{a:Act}{o:Oper}{h:OpHint}{k:LV->S->Mu->Option α}{p:CV->S->Mu->Option α}{r:α}{K:Act->World->Prop}{Q:Exit->Act->World->Prop}
def VRL_app: ∀{cs ds:List CV} {us vs:List Value},VRL G w cs us->VRL G w ds vs->VRL G w (cs++ds) (us++vs)
 |[],ds,us,vs,h,h'=>by simp only[VRL]at h;subst h;simpa using h'|c::cs,ds,us,vs,h,h'=>by simp only[VRL,eH]at h |-;obtain⟨v,r,rfl,h1,h2⟩:=h;exact⟨v,r++vs,rfl,h1,VRL_app h2 h'⟩
def wt {b s:Nat}: ∀{off:Nat} {xs:List CV},EL G w b s off xs->(∀x∈xs,x.cells.length=s)-> ∃vs,VRL G w (xs.flatMap CV.cells) vs/\ ∀(j:Nat) v,vs[j]? =some v->w.cell? ⟨b,off+j,none⟩=some v/\off+j<G.O b
 |off,[],_,_=>⟨[],by simp[VRL],λj v hv=>by simp at hv⟩|off,x::xs,h,hs=>by
  have hx:=KF h 0 x rfl;have h2:EL G w b s (off+s) xs:=by have:=HK 1 h;simp_all
  obtain⟨vs,h3,h4⟩:=wt h2 λy hy=>hs y (fw _ hy);simp only[Dq,j8]at hx;have hl:=hs x bE;have h5: ∃us,VRL G w x.cells us/\ ∀(j:Nat) v,us[j]? =some v->w.cell? ⟨b,off+j,none⟩=some v/\off+j<G.O b:=by obtain⟨us,h6,h7⟩:=HJ hx;refine⟨us,h6,λj v hv=>⟨h7 j v hv,?_⟩⟩;have hj:j<us.length:=(dP.1 hv).1;have:=VRL_len h6;obtain⟨v',_,h8,_⟩:=K7 hx j (getElem x.cells j bu) bE;exact h8
  obtain⟨us,h6,h7⟩:=h5;have hus:=VRL_len h6;refine⟨us++vs,?_,λj v hv=> ?_⟩
  ·simp only[tZ];exact VRL_app h6 h3
  grind
def Ed: ∀{xs:List CV},(∀x∈xs,jt x=true)-> ∀{vs:List Value},VRL G w (xs.flatMap CV.cells) vs-> ∀v∈vs,v.oneCell'=true
 |[],_,vs,h,v,hv=>by simp only[List.flatMap_nil,VRL]at h;subst h;simp at hv|x::xs,hs,vs,h,v,hv=>by
  have hx:=hs x bE;have key: ∀(cs ds:List CV) (vs:List Value),VRL G w (cs++ds) vs-> ∃us ws,vs=us++ws/\VRL G w cs us/\VRL G w ds ws:=by
   intro cs
   induction cs with
   |nil=>intro ds vs h;exact⟨[],vs,rfl,by simp[VRL],by simpa using h⟩|cons c cs ih=>intro ds vs h;simp only[eH,VRL]at h;obtain⟨v,r,rfl,h1,h2⟩:=h;obtain⟨us,ws,rfl,h3,h4⟩:=ih ds r h2;exact⟨v::us,ws,rfl,by simp only[VRL];exact⟨v,us,rfl,h1,h3⟩,h4⟩
  simp only[tZ]at h;obtain⟨us,ws,rfl,h1,h2⟩:=key _ _ _ h;rcases gt.1 hv with hv|hv
  ·unfold jt at hx;split at hx
   ·exact tF hx h1 v hv
   ·rename_i c hc;have hcc:x.cells=[x]:=lc (by intro cs e;exact hc cs e);rw[hcc]at h1;exact tF (cs:=[x]) (by simp only[gg,hx]) h1 v hv
  ·exact Ed (λy hy=>hs y (fw _ hy)) h2 v hv
structure Appends (P:Program) (w:World) (xt:TypeId) (y:Value) (size m:Nat) (news:List Value):Prop where
 type: ∃d,P.underlying xt=some d/\ ∀k,d≠ .int k
 len: ∀w',(Builtin.lenOf y).run P w'= .ok m w'
 cells: ∀w',w'.heap=w.heap->(Builtin.firstCells size m y).run P w'= .ok news.toArray w'
 size:news.length=m*size
def DC {t ty e xt:TypeId}{i:TypeInfo}{y:Value}{m:Nat}{news:List Value}(ht:P.underlying t=some (.slice e))(hi:P.info? e=some i)(A:Appends P w xt y i.size m news)
 {g sLen sCap:Nat} {cur:Array Value} {e':TypeId} {fz:Nat×Nat} (hg:w.heap[g]? =some (.cells cur e' fz)) (hfz:iQ cur fz) (h1: ∀u∈news,u.oneCell'=true) (hroom:sLen+m<=sCap) (hfit:sLen*i.size+news.length<=cur.size):
 (Builtin.append_ #[t,xt] ty #[.slice (some ⟨g,0,none⟩) sLen sCap,y]).run P w= .ok (.slice (some ⟨g,0,none⟩) (sLen+m) sCap) (w.setRow g (d5 cur (sLen*i.size) news)):=by
 obtain⟨d,hd,hni⟩:=A.type;have hst:=qX (P:=P) g (sLen*i.size) e' fz news 0 cur w hg hfz (by simpa using hfit) h1;have hf:=A.cells w rfl;have hn:(match d with| .int _=>true|_=>false)=false:=by cases d<;>first|rfl|exact absurd rfl (hni _)
 simp only[j8]at hst;simp[Builtin.append_,df ht,df hd,sizeOf,typeInfo,hi,A.len,hroom,hf,Addr.add_lit,hst]
def DA {t ty e xt:TypeId}{i:TypeInfo}{z:Value}{y:Value}{m:Nat}{news:List Value}(ht:P.underlying t=some (.slice e))(hi:P.info? e=some i)(hz:i.zero=some z)(A:Appends P w xt y i.size m news)
 {v:Value} {b:Option Addr} {sLen sCap:Nat} {olds:List Value} (holds: ∀w',w'.heap=w.heap->(Builtin.firstCells i.size sLen (.slice b sLen sCap)).run P w'= .ok olds.toArray w')
 (hg:sCap<sLen+m) (h63:((sLen+m:Nat):Int)<=9223372036854775807) (hfit:Builtin.nextslicecap (sLen+m) sCap*i.bytes<=281474976710656):
 (Builtin.append_ #[t,xt] ty #[.slice b sLen sCap,y]).run P w=
  .ok (.slice (some ⟨w.heap.size,0,none⟩) (sLen+m) (grownCap w (sLen+m) sCap e))
   (w.drew.alloc (.cells (olds.toArray++news.toArray++Builtin.zeroCells z.cells (grownCap w (sLen+m) sCap e-(sLen+m))) e)):=by
 obtain⟨d,hd,hni⟩:=A.type;have hn0:(match d with| .int _=>true|_=>false)=false:=by cases d<;>first|rfl|exact absurd rfl (hni _)
 have hn: ¬(sLen+m<=sCap):=bu;have h63': ¬(9223372036854775807<((sLen:Int)+(m:Int))):=bu;have h48': ¬(281474976710656<Builtin.nextslicecap (sLen+m) sCap*i.bytes):=bu;have hf:=A.cells w.drew rfl;have hfo:=holds w.drew rfl;simp[Builtin.append_,df ht,df hd,sizeOf,typeInfo,zeroValue,hi,hz,A.len,hn,h63',h48',Question.forced,hf,hfo,newRow,grownCap];grind
def DB {t ty e xt:TypeId}{i:TypeInfo}{y:Value}(ht:P.underlying t=some (.slice e))(hi:P.info? e=some i)(A:Appends P w xt y i.size 0 []):
 (Builtin.append_ #[t,xt] ty #[.slice none 0 0,y]).run P w= .ok (.slice none 0 0) w:=by
 obtain⟨d,hd,hni⟩:=A.type;have hn0:(match d with| .int _=>true|_=>false)=false:=by cases d<;>first|rfl|exact absurd rfl (hni _)
 simp[Builtin.append_,df ht,df hd,sizeOf,typeInfo,hi,A.len,A.cells w rfl]
def Pr {G0:Gh}{w0:World}{T0:Nat->Prop}(R:Rel G L s μ a.tmps w)(E:Ext L T0 G0 w0 G w (bM G w s μ a.tmps))(hd: ∀d,o.dst=some d->d<a.tmps.size)
 {t ty e xt:TypeId} {i:TypeInfo} {z:Value} {u y:Value} {m:Nat} {news:List Value} {xs ys:List CV} (ht:P.underlying t=some (.slice e)) (hi:P.info? e=some i) (hz:i.zero=some z) (hzs:z.cells.size=i.size)
 (hb1:1<=i.size) (hb2:i.bytes<=128) (A:Appends P w xt y i.size m news) (hy:VRL G w (ys.flatMap CV.cells) news) (hm:ys.length=m)
 (hxs: ∀x∈xs,x.cells.length=i.size/\jt x=true) (hys: ∀x∈ys,x.cells.length=i.size/\jt x=true) (hsm:xs.length+ys.length<=1099511627776) (hbt:(Nat.beq e 5||jw ys)=true)
 (hu:pp G w xs u) (hown: ∀b,b6 (.osl xs) u b->(∀l,¬bK G w s.fr a.tmps (μ++[s.lam]) l b)/\(∀lev i,b8 (bT (μ++[s.lam]) lev i)->G.β lev i≠b)/\(T0 b\/w0.heap.size<=b)):
 ∃cv w' G',(Builtin.append_ #[t,xt] ty #[u,y]).run P w= .ok cv w'/\Rel G' L (s.put o.dst (.osl (xs++ys))) μ (a.put o.dst cv).tmps w'/\Ext L T0 G0 w0 G' w' (bM G' w' (s.put o.dst (.osl (xs++ys))) μ (a.put o.dst cv).tmps):=by
 have hnl:news.length=ys.length*i.size:=by rw[A.size,hm]
 have hone: ∀u∈news,u.oneCell'=true:=Ed (λx hx=>(hys x hx).2) hy;have grown: ∀(b:Option Addr) (cap:Nat) (olds:List Value),u= .slice b xs.length cap->cap<xs.length+m->ys≠[]->VRL G w (xs.flatMap CV.cells) olds->
  (∀w',w'.heap=w.heap->(Builtin.firstCells i.size xs.length (.slice b xs.length cap)).run P w'= .ok olds.toArray w')->
  ∃cv w' G',(Builtin.append_ #[t,xt] ty #[u,y]).run P w= .ok cv w'/\Rel G' L (s.put o.dst (.osl (xs++ys))) μ (a.put o.dst cv).tmps w'/\Ext L T0 G0 w0 G' w' (bM G' w' (s.put o.dst (.osl (xs++ys))) μ (a.put o.dst cv).tmps):=by
  intro b cap olds hu' hcap hyne hox hol;subst hu';have hmul:(xs.length+m)*i.bytes<=(xs.length+m)*128:=Ja _ hb2;have hrun:=DA (P:=P) (w:=w) (ty:=ty) (v:=y) ht hi hz A hol hcap bu (growslice_fits hcap bu);obtain⟨R2,hO2⟩:=R.drew;have E2:Ext L T0 G0 w0 G w.drew (bM G w.drew s μ a.tmps):=by
   refine E.drew.weaken (λ_ h=>h) λb hb=> ?_;rcases hb with⟨l,hb⟩|hb
   ·exact .inl ⟨l,hO2 l b hb⟩
   ·exact .inr hb
  have hge:=grownCap_ge w (xs.length+m) cap e;have hcm:grownCap w (xs.length+m) cap e<=maxLen:=Jb w (xs.length+m) cap e (by unfold maxLen;omega);have hol2:=VRL_len hox;have hfl:=flat_len (λx hx=>(hxs x hx).1);have hall: ∀x∈xs++ys,x.cells.length=i.size:=λx hx=>by
   rcases gt.1 hx with hx|hx
   ·exact(hxs x hx).1
   ·exact(hys x hx).1
  have hlen:(xs++ys).length=xs.length+m:=by rw[ef,hm]
  generalize hcur:olds.toArray++news.toArray++Builtin.zeroCells z.cells (grownCap w (xs.length+m) cap e-(xs.length+m))=cur at hrun;have hcs:cur.size=grownCap w (xs.length+m) cap e*i.size:=by rw[<-hcur];simp only[Array.size_append,Ut,size_zeroCells,hzs,hnl,<-hol2,hfl,hm];rw[<-ow,<-ow];congr 1;omega
  have hgetl: ∀(j:Nat) v,(olds++news)[j]? =some v->cur.getD j undef=v:=by intro j v hv;have hj:j<(olds++news).length:=(dP.1 hv).1;rw[<-hcur,ex,<-sE];simp only[Array.toList_append,hZ];rw[<-hZ,gK (by simpa using hj),hv];rfl
  obtain ⟨G1, R3, E3⟩ := l0 (o := o) (n := (xs ++ ys).length * i.size) (ob := .cells cur e) (v := .osl (xs ++ ys)) (cv := .slice (some ⟨w.heap.size, 0, none⟩) (xs.length + m) (grownCap w (xs.length + m) cap e)) R2 E2 hd (λhle => by
   simp only[LVR];refine .inr ⟨w.heap.size,grownCap w (xs.length+m) cap e,cur,e,i.size,by rw[hlen],lz w.drew _,bu,hcm,bu,hall,λh0=> ?_,?_,by rw[show w.heap.size=w.drew.heap.size from rfl,fS],PC hbt hyne⟩
   ·have:=mE List.length h0;rw[hlen]at this;simp only[fL]at this;omega
   ·have hvl:VRL G w ((xs++ys).flatMap CV.cells) (olds++news):=by rw[List.flatMap_append];exact VRL_app hox hy
    obtain⟨hl2,hg2⟩:=gE hvl;refine EL_of (vs:=olds++news) hall (jD hl2 λj c v hc hv=> ?_) λj v hv=> ?_
    ·obtain⟨v',hv',hr⟩:=hg2 j c hc;rw[hv]at hv';injection hv' with hv';subst hv';exact de hle c v (de (G:=G) (w:=w) (G':=G) (w':=w.drew) ⟨λ_ _ _ h hb=>⟨h,hb⟩,λ_ _ h=>⟨h,rfl,rfl⟩,λ_ _ _ h hc=>⟨h,hc⟩,λb cur e fz h=>⟨cur,fz,h,rfl⟩⟩ c v hr)
    ·have hj:j<(olds++news).length:=(dP.1 hv).1;have hj2:j<(xs++ys).length*i.size:=by rw[<-flat_len hall,hl2];exact hj
     have hj3:j<cur.size:=by rw[hcs];refine u1 hj2 (sI _ ?_);omega
     rw[fZ,show w.heap.size=w.drew.heap.size from rfl,fS];refine⟨?_,hj2⟩
     rw[cell_of_heap (lz w.drew (.cells cur e)) hj3,hgetl j v hv]) (λb hb=>by simpa[b6]using hb.symm)
  exact⟨_,_,G1,hrun,R3,E3⟩
 rcases hu with⟨rfl,rfl⟩|⟨b,cap,cur,e',sz,hue,hb,hc1,hc2,hc3,hc4,hc5,hel,hO,hC⟩
 ·by_cases h0:m=0
  ·subst h0;have hy0:ys=[]:=iK hm;subst hy0;have hn0:news=[]:=iK (by simpa using hnl);subst hn0;have hrun:=DB (P:=P) (w:=w) (ty:=ty) ht hi A;obtain⟨R2,E2⟩:=eQ (dst:=o.dst) (v:= .osl []) (cv:= .slice none 0 0) R E (by simp only[LVR];exact .inl ⟨rfl,rfl⟩) (λb hb=>by simp[b6]at hb) hd;exact⟨_,_,G,hrun,R2,E2⟩
  ·exact grown none 0 [] rfl (by simp only[fL];omega) (λh=>h0 (by subst h;simpa using hm.symm)) (by simp[VRL]) (λw' _=>Dn w' _ _ _ _)
 ·subst hue;obtain⟨olds,hox,hoc⟩:=wt hel hc4;have hsz:xs=[]\/sz=i.size:=by
   cases xs with|nil=>exact .inl rfl|cons x xs=>exact .inr ((hc4 x bE).symm.trans (hxs x bE).1)
  have hol2:=VRL_len hox;have hfl:=flat_len (λx hx=>(hxs x hx).1);by_cases hroom:xs.length+m<=cap
  ·
   have hcap0:xs=[]->m=0:=λh=>by have:=hc5 h;subst h;simp only[fL]at hroom;omega
   have hfit:xs.length*i.size+news.length<=cur.size:=by
    rcases hsz with h0|h0
    ·have:=hcap0 h0;subst h0;rw[hnl,hm,this];simp
    ·subst h0;rw[hnl,hm,<-ow];exact iN (sI _ hroom) hc3
   have hrun:=DC (P:=P) (w:=w) (ty:=ty) ht hi A hb (pg cur) hone hroom hfit;obtain⟨ho1,ho2,ho3⟩:=hown b (by simp[b6]);have hOb:G.O b=xs.length*i.size:=by
    rw[hO];rcases hsz with h0|h0
    ·subst h0;simp
    ·rw[h0]
   have hblk: ∀b',b'≠b->(w.setRow b (d5 cur (xs.length*i.size) news)).heap[b']? =w.heap[b']? :=λb' h=>pi w b b' _ h;have hnh:=ra w b cur (d5 cur (xs.length*i.size) news) e' (0,0) hb;have hle:Le G w (G.setO b ((xs++ys).length*i.size)) (w.setRow b (d5 cur (xs.length*i.size) news)):=by
    refine⟨λb' es clk h hb'=> ?_,λ_ _ h=>⟨h,rfl,rfl⟩,λb' off v h hc=> ?_,λb' cur2 e2 fz2 h=> ?_⟩
    ·have hne:b'≠b:=λe=>by subst e;rw[hb]at hb';cases hb'
     exact⟨by rw[eh hne];exact h,by rw[hblk b' hne];exact hb'⟩
    ·by_cases hne:b'=b
     ·subst hne;rw[fS];refine⟨?_,?_⟩
      ·rw[hOb]at h;refine u1 h (sI _ ?_);simp
      ·rw[hOb]at h;have hcur:off<cur.size:=bu;rw[cell_of_heap hb hcur]at hc;rw[cell_of_heap hnh (by rw[fN];exact hcur),jr (.inl h)];exact hc
     ·refine⟨by rw[eh hne];exact h,?_⟩;rw[<-hc];simp only[World.cell?];rw[hblk b' hne]
    ·by_cases hne:b'=b
     ·subst hne;rw[hb]at h;obtain⟨rfl,rfl,rfl⟩:=(kV ..).mp (iM h);exact⟨_,_,hnh,fN _ _ _⟩
     ·exact⟨cur2,fz2,by rw[hblk b' hne];exact h,rfl⟩
   have hTb: ∀b',kb G w s.fr a.tmps (μ++[s.lam]) b'->b'≠b:=by
    rintro b' (⟨l,hl⟩|⟨lev,j,hl,rfl⟩) e
    ·subst e;exact ho1 l hl
    ·exact ho2 lev j hl e
   obtain⟨R2,hO2⟩:=R.frame hle (λb' hb'=>⟨hblk b' (hTb b' hb'),eh (hTb b' hb')⟩) (λ_ _ _=>⟨rfl,rfl⟩) rfl;have E2:Ext L T0 G0 w0 (G.setO b ((xs++ys).length*i.size)) (w.setRow b (d5 cur (xs.length*i.size) news)) (bM (G.setO b ((xs++ys).length*i.size)) (w.setRow b (d5 cur (xs.length*i.size) news)) s μ a.tmps):=by
    refine⟨E.le.trans hle,E.os,E.tape,E.output,by simpa using E.size,λb' hb' hn=> ?_,λb' hb'=> ?_,E.lev⟩
    ·obtain⟨h1,h2⟩:=E.keep b' hb' hn;have hne:b'≠b:=λe=>by
      subst e;rcases ho3 with h|h
      ·exact hn h
      ·omega
     exact⟨(hblk b' hne).trans h1,(eh hne).trans h2⟩
    ·refine E.grow b' ?_;rcases hb' with⟨l,hl⟩|hl
     ·exact .inl ⟨l,hO2 l b' hl⟩
     ·exact .inr hl
   have hlen:(xs++ys).length=xs.length+m:=by rw[ef,hm]
   have hall: ∀x∈xs++ys,x.cells.length=i.size:=λx hx=>by
    rcases gt.1 hx with hx|hx
    ·exact(hxs x hx).1
    ·exact(hys x hx).1
   have hvl:VRL G w ((xs++ys).flatMap CV.cells) (olds++news):=by rw[List.flatMap_append];exact VRL_app hox hy
   have hoL:olds.length=xs.length*i.size:=by rw[<-hol2,hfl]
   obtain ⟨R3, E3⟩ := eQ (dst := o.dst) (v := .osl (xs ++ ys)) (cv := .slice (some ⟨b, 0, none⟩) (xs.length + m) cap) R2 E2 (by
    simp only[LVR];refine .inr ⟨b,cap,_,e',i.size,by rw[hlen],hnh,bu,hc2,?_,hall,λh0=> ?_,?_,fS,λhb1 hb2=>hC (zK xs ys hb1) λhxn=>hb2 (by subst hxn;have:=hcap0 rfl;rw[eR];exact iK bu)⟩
    ·rw[fN];rcases hsz with h0|h0
     ·have:=hc5 h0;rw[this];simp
     ·rw[<-h0];exact hc3
    ·exact hc5 (List.append_eq_nil_iff.1 h0).1
    ·obtain⟨hl2,hg2⟩:=gE hvl;refine EL_of (vs:=olds++news) hall (jD hl2 λj c v hc hv=> ?_) λj v hv=> ?_
     ·obtain⟨v',hv',hr⟩:=hg2 j c hc;rw[hv]at hv';injection hv' with hv';subst hv';exact de hle c v hr
     ·have hj:j<(olds++news).length:=(dP.1 hv).1;have hj2:j<(xs++ys).length*i.size:=by rw[<-flat_len hall,hl2];exact hj
      rw[ef]at hj;rw[fZ,fS];refine⟨?_,hj2⟩;rw[cell_of_heap hnh (by rw[fN];omega)];by_cases hjo:j<olds.length
      ·rw[gK hjo]at hv;rw[jr (.inl bu)];have h1:=(hoc j v hv).1;rw[fZ,cell_of_heap hb bu]at h1;exact h1
      ·rw[jy bu]at hv;have:=ls (cur:=cur) (off:=xs.length*i.size) (vs:=news) (j:=j-olds.length) hfit bu;rw[show xs.length*i.size+(j-olds.length)=j by omega]at this;rw[this,gi,hv]
       rfl) (λb' hb'=>by
    have:b=b':=by simpa[b6]using hb'
    subst this
    exact⟨λl hl=>ho1 l (hO2 l b hl),λlev j hl=>ho2 lev j hl,ho3⟩) hd
   exact⟨_,_,_,hrun,R3,E3⟩
  ·refine grown (some ⟨b,0,none⟩) cap olds rfl bu (λhyn=>by subst hyn;simp only[fL]at hm;omega) hox λw' hw'=> ?_;refine Dl w' i.size xs.length ⟨b,0,none⟩ xs.length cap olds (by rw[<-hol2,hfl]) λj v hv=> ?_;have:=(hoc j v hv).1;rw[ij];simp only[World.cell?]at this |-;rw[hw'];exact this
def X8 {G0:Gh}{w0:World}{T0:Nat->Prop}(R:Rel G L s μ a.tmps w)(E:Ext L T0 G0 w0 G w (bM G w s μ a.tmps))(hd: ∀d,o.dst=some d->d<a.tmps.size)
 {t ty e xt:TypeId} {i:TypeInfo} {z:Value} {u y:Value} {m:Nat} {news:List Value} {xs:List Value} (ht:P.underlying t=some (.slice e)) (hi:P.info? e=some i) (hz:i.zero=some z) (hzs:z.cells.size=i.size)
 (hs1:i.size=1) (hb2:i.bytes<=128) (A:Appends P w xt y i.size m news) (hone: ∀u∈news,u.oneCell'=true) (hsm:xs.length+news.length<=1099511627776)
 (hu:wI G w xs u) (hown: ∀b,b6 (.ost xs) u b->(∀l,¬bK G w s.fr a.tmps (μ++[s.lam]) l b)/\(∀lev i,b8 (bT (μ++[s.lam]) lev i)->G.β lev i≠b)/\(T0 b\/w0.heap.size<=b)):
 ∃cv w' G',(Builtin.append_ #[t,xt] ty #[u,y]).run P w= .ok cv w'/\Rel G' L (s.put o.dst (.ost (xs++news))) μ (a.put o.dst cv).tmps w'/\Ext L T0 G0 w0 G' w' (bM G' w' (s.put o.dst (.ost (xs++news))) μ (a.put o.dst cv).tmps):=by
 have hm:news.length=m:=by rw[A.size,hs1,Nat.mul_one]
 have grown: ∀(b:Option Addr) (cap:Nat),u= .slice b xs.length cap->cap<xs.length+m->
  (∀w',w'.heap=w.heap->(Builtin.firstCells i.size xs.length (.slice b xs.length cap)).run P w'= .ok xs.toArray w')->
  ∃cv w' G',(Builtin.append_ #[t,xt] ty #[u,y]).run P w= .ok cv w'/\Rel G' L (s.put o.dst (.ost (xs++news))) μ (a.put o.dst cv).tmps w'/\Ext L T0 G0 w0 G' w' (bM G' w' (s.put o.dst (.ost (xs++news))) μ (a.put o.dst cv).tmps):=by
  intro b cap hu' hcap hol;subst hu';have hmul:(xs.length+m)*i.bytes<=(xs.length+m)*128:=Ja _ hb2;have hrun:=DA (P:=P) (w:=w) (ty:=ty) (v:=y) ht hi hz A hol hcap bu (growslice_fits hcap bu);obtain⟨R2,hO2⟩:=R.drew;have E2:Ext L T0 G0 w0 G w.drew (bM G w.drew s μ a.tmps):=by
   refine E.drew.weaken (λ_ h=>h) λb hb=> ?_;rcases hb with⟨l,hb⟩|hb
   ·exact .inl ⟨l,hO2 l b hb⟩
   ·exact .inr hb
  have hge:=grownCap_ge w (xs.length+m) cap e;have hcm:grownCap w (xs.length+m) cap e<=maxLen:=Jb w (xs.length+m) cap e (by unfold maxLen;omega);have hlen:(xs++news).length=xs.length+m:=by rw[ef,hm]
  generalize hcur:xs.toArray++news.toArray++Builtin.zeroCells z.cells (grownCap w (xs.length+m) cap e-(xs.length+m))=cur at hrun;have hcs:cur.size=grownCap w (xs.length+m) cap e:=by rw[<-hcur];simp only[Array.size_append,Ut,size_zeroCells,hzs,hs1,hm];omega
  have hgetl: ∀(j:Nat) v,(xs++news)[j]? =some v->cur.getD j undef=v:=by intro j v hv;have hj:j<(xs++news).length:=(dP.1 hv).1;rw[<-hcur,ex,<-sE];simp only[Array.toList_append,hZ];rw[<-hZ,gK (by simpa using hj),hv];rfl
  obtain ⟨G1, R3, E3⟩ := l0 (o := o) (n := 0) (ob := .cells cur e) (v := .ost (xs ++ news)) (cv := .slice (some ⟨w.heap.size, 0, none⟩) (xs.length + m) (grownCap w (xs.length + m) cap e)) R2 E2 hd (λhle => by
   simp only[LVR]
   exact .inr ⟨w.heap.size,grownCap w (xs.length+m) cap e,cur,e,by rw[hlen],lz w.drew _,bu,hcm,bu,by rw[show w.heap.size=w.drew.heap.size from rfl,fS],hgetl⟩) (λb hb=>by simpa[b6]using hb.symm)
  exact⟨_,_,G1,hrun,R3,E3⟩
 rcases hu with⟨rfl,rfl⟩|⟨b,cap,cur,e',hue,hb,hc1,hc2,hc3,hO,hC⟩
 ·by_cases h0:m=0
  ·subst h0;have hn0:news=[]:=iK hm;subst hn0;have hrun:=DB (P:=P) (w:=w) (ty:=ty) ht hi A;obtain⟨R2,E2⟩:=eQ (dst:=o.dst) (v:= .ost []) (cv:= .slice none 0 0) R E (by simp only[LVR];exact .inl ⟨rfl,rfl⟩) (λb hb=>by simp[b6]at hb) hd;exact⟨_,_,G,hrun,R2,E2⟩
  ·exact grown none 0 rfl (by simp only[fL];omega) (λw' _=>Dn w' _ _ _ _)
 ·subst hue;by_cases hroom:xs.length+m<=cap
  ·have hfit:xs.length*i.size+news.length<=cur.size:=by rw[hs1,hm];omega
   have hrun:=DC (P:=P) (w:=w) (ty:=ty) ht hi A hb (pg cur) hone hroom hfit;obtain⟨ho1,ho2,ho3⟩:=hown b (by simp[b6]);have hblk: ∀b',b'≠b->(w.setRow b (d5 cur (xs.length*i.size) news)).heap[b']? =w.heap[b']? :=λb' h=>pi w b b' _ h;have hnh:=ra w b cur (d5 cur (xs.length*i.size) news) e' (0,0) hb;have hle:Le G w G (w.setRow b (d5 cur (xs.length*i.size) news)):=by
    refine⟨λb' es clk h hb'=> ?_,λ_ _ h=>⟨h,rfl,rfl⟩,λb' off v h hc=> ?_,λb' cur2 e2 fz2 h=> ?_⟩
    ·have hne:b'≠b:=λe=>by subst e;omega
     exact⟨h,by rw[hblk b' hne];exact hb'⟩
    ·have hne:b'≠b:=λe=>by subst e;omega
     refine⟨h,?_⟩;rw[<-hc];simp only[World.cell?];rw[hblk b' hne]
    ·by_cases hne:b'=b
     ·subst hne;rw[hb]at h;obtain⟨rfl,rfl,rfl⟩:=(kV ..).mp (iM h);exact⟨_,_,hnh,fN _ _ _⟩
     ·exact⟨cur2,fz2,by rw[hblk b' hne];exact h,rfl⟩
   have hTb: ∀b',kb G w s.fr a.tmps (μ++[s.lam]) b'->b'≠b:=by
    rintro b' (⟨l,hl⟩|⟨lev,j,hl,rfl⟩) e
    ·subst e;exact ho1 l hl
    ·exact ho2 lev j hl e
   obtain⟨R2,hO2⟩:=R.frame hle (λb' hb'=>⟨hblk b' (hTb b' hb'),rfl⟩) (λ_ _ _=>⟨rfl,rfl⟩) rfl;have E2:Ext L T0 G0 w0 G (w.setRow b (d5 cur (xs.length*i.size) news)) (bM G (w.setRow b (d5 cur (xs.length*i.size) news)) s μ a.tmps):=by
    refine⟨E.le.trans hle,E.os,E.tape,E.output,by simpa using E.size,λb' hb' hn=> ?_,λb' hb'=> ?_,E.lev⟩
    ·obtain⟨h1,h2⟩:=E.keep b' hb' hn;have hne:b'≠b:=λe=>by
      subst e;rcases ho3 with h|h
      ·exact hn h
      ·omega
     exact⟨(hblk b' hne).trans h1,h2⟩
    ·refine E.grow b' ?_;rcases hb' with⟨l,hl⟩|hl
     ·exact .inl ⟨l,hO2 l b' hl⟩
     ·exact .inr hl
   have hlen:(xs++news).length=xs.length+m:=by rw[ef,hm]
   obtain ⟨R3, E3⟩ := eQ (dst := o.dst) (v := .ost (xs ++ news)) (cv := .slice (some ⟨b, 0, none⟩) (xs.length + m) cap) R2 E2 (by
    simp only[LVR];refine .inr ⟨b,cap,_,e',by rw[hlen],hnh,bu,hc2,by rw[fN];exact hc3,hO,λj v hv=> ?_⟩;rw[hs1,Nat.mul_one];have hj:j<(xs++news).length:=(dP.1 hv).1;by_cases hjo:j<xs.length
    ·rw[gK hjo]at hv;rw[jr (.inl hjo)];exact hC j v hv
    ·rw[jy bu]at hv;rw[hlen]at hj;have:=ls (cur:=cur) (off:=xs.length) (vs:=news) (j:=j-xs.length) bu bu;rw[show xs.length+(j-xs.length)=j by omega]at this;rw[this,gi,hv]
     rfl) (λb' hb'=>by
    have:b=b':=by simpa[b6]using hb'
    subst this
    exact⟨λl hl=>ho1 l (hO2 l b hl),λlev j hl=>ho2 lev j hl,ho3⟩) hd
   exact⟨_,_,_,hrun,R3,E3⟩
  ·refine grown (some ⟨b,0,none⟩) cap rfl bu λw' hw'=> ?_;refine Dl w' i.size xs.length ⟨b,0,none⟩ xs.length cap xs (by rw[hs1,Nat.mul_one]) λj v hv=> ?_;have hj:j<xs.length:=(dP.1 hv).1;have:=cell_of_heap (w:=w) (j:=j) hb bu;rw[hC j v hv]at this;rw[ij,fZ];simp only[World.cell?]at this |-;rw[hw'];exact this
def Gb {t e xt e':TypeId}{sz:Nat}{ys:List CV}{y:Value}(hu:P.underlying xt=some (.slice e'))(hv:VR G w (.sl ys) y)(hs: ∀x∈ys,x.cells.length=sz):
 ∃news,Appends P w xt y sz ys.length news/\VRL G w (ys.flatMap CV.cells) news:=by
 simp only[VR]at hv;obtain⟨A,len,cap,rfl,rfl,hlc,hx⟩:=hv;rcases hx with h0|⟨b,off,sz',rfl,hs',hel⟩
 ·have:ys=[]:=iK h0;subst this;refine⟨[],⟨⟨_,hu,λk=>by simp⟩,λw'=>rfl,λw' _=> ?_,bE⟩,by simp[VRL]⟩;cases A with|none=>exact Dn w' _ _ _ _|some A=>simp[Builtin.firstCells,loadCells,loadCellsFrom]
 ·obtain⟨news,h1,h2⟩:=wt hel hs';have hl:=VRL_len h1;rw[flat_len hs]at hl;refine⟨news,⟨⟨_,hu,λk=>by simp⟩,λw'=>rfl,λw' hw'=> ?_,hl.symm⟩,h1⟩;refine Dl w' sz ys.length _ _ _ news hl.symm λj v hv=> ?_;have:=(h2 j v hv).1;rw[ij];simp only[World.cell?]at this |-;simp_all
def Ps {xt:TypeId}{l:List UInt8}(hu:P.underlying xt=some .string):
 ∃news,Appends P w xt (.string ⟨⟨l⟩⟩) 1 l.length news/\VRL G w ((l.map λ(b:UInt8)=>CV.v (.int .u8 (b.toNat:Int))).flatMap CV.cells) news:=by
 refine⟨ju l,⟨⟨_,hu,λk=>by simp⟩,λw'=>rfl,λw' _=> ?_,by simp[ju]⟩,?_⟩
 ·simp only[Builtin.firstCells];have:((⟨⟨l⟩⟩:ByteArray).extract 0 l.length).data=⟨l⟩:=by simp
  rw[this];simp[ju]
 ·rw[yK];refine jD (by simp[ju]) λj c v hc hv=> ?_;simp only[ju,gM,qn]at hc hv;obtain⟨b,hb,rfl⟩:=hc;obtain⟨b',hb',rfl⟩:=hv;rw[hb]at hb';injection hb' with hb';subst hb';simp[VR]
def L3 {e:TypeId}{i:TypeInfo}(hi:P.info? e=some i)(h:oU P e=true):i.bytes<=128/\1<=i.size:=by unfold oU at h;simp_all
def zA: ∀{as bs:List CV},gg as=true->gg bs=true->gg (as++bs)=true
 |[],bs,_,h=>h|c::r,bs,h1,h2=>by
  simp only[gg,eH]at h1 |-;split at h1
  ·rename_i hc;first|exact zA h1 h2|(simp only[hc];exact zA h1 h2)
  ·cases h1
def Cp: ∀{xs:List CV},(∀x∈xs,jt x=true)->gg (xs.flatMap CV.cells)=true
 |[],_=>rfl|x::xs,h=>by
  simp only[tZ];refine zA ?_ (Cp λy hy=>h y (fw _ hy));have hx:=h x bE;unfold jt at hx;split at hx
  ·exact hx
  ·rename_i c hc;rw[lc (by intro cs e;exact hc cs e)];simp only[gg,hx]
def age {x y:Operand}{c:Call}{t t2:TypeId}(ho:o.op= .call c)(hc:c.callee= .builtin .copy)(hx:c.args.toList=[x,y])(ht:c.argTypes.toList=[t,t2])(R:Rel G L s μ a.tmps w)(hd: ∀d,o.dst=some d->d<a.tmps.size)
 (hk:KOK L G w s μ a o.dst k r K) (hop:Gp P t (evA h s.fr x) (evA h s.fr y) (bz h.take s) μ k=some r):o.wp P a w K Q:=by
 obtain⟨R1,E1,hO⟩:=fI R h.take;have hl:=cq h.take s;unfold Gp at hop;split at hop<;>try(simp at hop;done)
 rename_i e hu;obtain⟨sz,hsz,hop⟩:=bA.1 hop;split at hop<;>try(simp at hop;done)
 rename_i i off len hex;split at hop<;>try(simp at hop;done)
 rename_i z cs hob;obtain⟨hz,hop⟩:=bR.1 hop;obtain⟨ys,hys,hop⟩:=bA.1 hop;obtain⟨hg,hop⟩:=bR.1 hop;have hz:=fb hz;simp only[cE]at hg;obtain⟨hg1,hg2,hg3⟩:=hg;have hg2:=gr hg2;have hg3:=gr hg3;have hall:=me hg1;have hv:=jO hys (cG R h y).1;have hvx:=(cG R h x).1;rw[hex]at hvx;simp only[LVR]at hvx;obtain⟨hid,cap,cur,e',fz,hvx,hlc,hcm,hb,hsize⟩:=hvx;have hargs:c.args= #[x,y]:=by cases ha:c.args;simp_all
 have htys:c.argTypes= #[t,t2]:=by cases ha:c.argTypes;simp_all
 obtain⟨news,hfirst,hlen,hvl⟩: ∃news:List Value,(Builtin.firstCells sz ys.length (a.eval y)).run P w= .ok news.toArray w/\(Builtin.lenOf (a.eval y)).run P w= .ok ys.length w/\VRL G w (ys.flatMap CV.cells) news:=by
  simp only[VR]at hv;obtain⟨A,ln,cp,he,rfl,hlc',hx'⟩:=hv;rw[he];rcases hx' with h0|⟨b,of,sz',rfl,hs',hel⟩
  ·have:ys=[]:=iK h0;subst this;refine⟨[],?_,rfl,by simp[VRL]⟩;cases A with|none=>exact Dn w _ _ _ _|some A=>simp[Builtin.firstCells,loadCells,loadCellsFrom]
  ·have hsz':ys=[]\/sz'=sz:=by
    cases ys with|nil=>exact .inl rfl|cons q ys=>exact .inr ((hs' q bE).symm.trans (hall q bE).1)
   obtain⟨news,h1,h2⟩:=wt hel hs';have hll:=VRL_len h1;rw[flat_len λx hx=>(hall x hx).1]at hll;refine⟨news,Dl w sz ys.length _ _ _ news hll.symm λj v hv=> ?_,rfl,h1⟩;rw[ij];exact(h2 j v hv).1
 have hnl:=VRL_len hvl;rw[flat_len λx hx=>(hall x hx).1]at hnl;have hw:obW true (ys.length*sz) (.arr z cs) off (.cv (.agg (ys.flatMap CV.cells)))=some (.arr z (dG cs off (ys.flatMap CV.cells))):=by
  have h1:(fJ (ys.length*sz) (CV.agg (ys.flatMap CV.cells))&&Nat.ble (off+ys.length*sz) cs.length)=true:=by simp only[fJ,CV.cells,jt,cE];refine⟨⟨?_,Cp λx hx=>(hall x hx).2⟩,by rw[Nat.ble_eq];exact hg3⟩;rw[flat_len λx hx=>(hall x hx).1];exact q9 _
  simp only[obW,cW,opt];rw[h1];rfl
 obtain⟨w',h1,hrun,R2,E2⟩:=R1.writeW (P:=P) (s1:={bz h.take s with lam:=(bz h.take s).lam.set i (.arr z (dG cs off (ys.flatMap CV.cells)))}) (μ1:=μ) (lev:=L) (i:=i) (off:=off) (cv:= .agg news.toArray)
  (ob:= .arr z cs) (o':= .arr z (dG cs off (ys.flatMap CV.cells))) (v:= .cv (.agg (ys.flatMap CV.cells))) (bb:=true) (n:=ys.length*sz)
  E1 (by rw[<-hob,<-R.lev];exact db) hw ⟨λ_=>by simp only[LVR,VR];exact⟨_,rfl,hvl⟩,λe=>by omega⟩ (λb hb=>by simp[b6]at hb) rfl rfl bE rfl (by rw[<-R.lev];exact m0.symm)
 obtain⟨R3,E3⟩:=eQ (dst:=o.dst) (v:= .cv (.v (.int .i64 (ys.length:Int)))) (cv:= .int .i64 (ys.length:Int)) R2 E2 (by simp[LVR,VR]) (λb hb=>by simp[b6]at hb) hd;refine eU ?_ (hk _ _ _ _ w' G hop R3 E3);have hst:(storeCells ⟨G.β L i,off,none⟩ news).run P w= .ok () w':=hrun;have hmin:Nat.min ys.length len=ys.length:=UA hg2;simp only[execOp,ho,resolve,hc,hargs,htys,dk,fA,dq,invoke,builtin,t6,dr,iA];have hcp:(Builtin.copy_ #[t,t2] o.type #[a.eval x,a.eval y]).run P w= .ok (.int .i64 (ys.length:Int)) w':=by simp[Builtin.copy_,df hu,hvx,hlen,hmin,ge hsz,hfirst,hst,goInt]
 rw[hcp];rfl
def abO {x y:Operand}{c:Call}{t:TypeId}{ts:List TypeId}(ho:o.op= .call c)(hc:c.callee= .builtin .append)(hx:c.args.toList=[x,y])(ht:c.argTypes.toList=t::ts)(R:Rel G L s μ a.tmps w)(hd: ∀d,o.dst=some d->d<a.tmps.size)
 (hk:KOK L G w s μ a o.dst k r K) (hts:ts.length<=1) (hop:nr P h t ts.head? (evA h s.fr x) (evA h s.fr y) (bz h.take s) μ k=some r):o.wp P a w K Q:=by
 obtain⟨R1,E1,hO⟩:=fI R h.take;have hl:=cq h.take s;unfold nr at hop;split at hop<;>try(simp at hop;done)
 rename_i e hu;obtain⟨sz,hsz,hop1⟩:=bA.1 hop;obtain⟨hby,hop2⟩:=bR.1 hop1;obtain⟨zc,hz,hop3⟩:=bA.1 hop2;obtain⟨hzl,hop4⟩:=bR.1 hop3;clear hop hop1 hop2 hop3;have hzl:=fb hzl;cases hth:ts.head? with
 |none=>rw[hth]at hop4;simp at hop4|some xt=>
  rw[hth]at hop4;have htl:ts=[xt]:=by
   cases ts with
   |nil=>simp at hth|cons q ts=>
    simp only[List.head?_cons,bP]at hth;subst hth;cases ts with|nil=>rfl|cons=>simp at hts
  subst htl;have hargs:c.args= #[x,y]:=by cases ha:c.args;simp_all
  have htys:c.argTypes= #[t,xt]:=by cases ha:c.argTypes;simp_all
  obtain⟨i,hi,his⟩:=Hs hsz;obtain⟨hb2,hb1⟩:=L3 hi hby
  obtain⟨z,i',hi',hiz,hzr,hzv⟩:=mc (P:=P) (G:=G) (w:=w) hz;rw[hi]at hi';injection hi' with hi';subst hi';have hzs:z.cells.size=i.size:=by have:=VRL_len hzv;simp at this;omega
  cases hw:h.own with
  |true=>
   simp only[hw]at hop4;obtain⟨xs,hxs,hop⟩:=bA.1 hop4;clear hop4;split at hop<;>try(simp at hop;done)
   rename_i e' hux;obtain⟨ys,hys,hop⟩:=bA.1 hop;obtain⟨vs,hvs,hop⟩:=bA.1 hop;obtain⟨hg,hop⟩:=bR.1 hop;simp only[cE,small,dA]at hg;obtain⟨hg1,hg2⟩:=hg;have hg1:=fb hg1;have h1:i.size=1:=bu;obtain⟨hys2,hys3⟩:=Ko hvs;have hv:=jO hys (cG R h y).1;have hcl: ∀x∈ys,x.cells.length=i.size:=λx hx=>by rw[hys2]at hx;obtain⟨y,_,rfl⟩:=ph.1 hx;exact h1.symm
   obtain⟨news,hA,hn⟩:=Gb (P:=P) (t:=t) (e:=e) hux hv hcl;have hnv:news=vs:=by
    have hvv: ∀(l m:List Value),VRL G w (l.map CV.v) m->m=l:=λl=>by
     induction l with
     |nil=>intro m hm;simpa[VRL]using hm|cons x l ih=>intro m hm;simp only[dr,VRL,VR]at hm;obtain⟨v,r,rfl,rfl,h2⟩:=hm;rw[ih r h2]
    have hfm: ∀l:List Value,(l.map CV.v).flatMap CV.cells=l.map CV.v:=λl=>by
     induction l with|nil=>rfl|cons x l ih=>simp only[dr,tZ,ih,CV.cells];rfl
    rw[hys2,hfm]at hn;exact hvv vs news hn
   subst hnv;obtain⟨hou,how⟩:=GA hxs (cG R h x).1;simp only[LVR]at hou;have hown: ∀b,b6 (.ost xs) (a.eval x) b->(∀l,¬bK G w (bz h.take s).fr a.tmps (μ++[(bz h.take s).lam]) l b)/\(∀lev i,b8 (bT (μ++[(bz h.take s).lam]) lev i)->G.β lev i≠b)/\(bM G w s μ a.tmps b\/w.heap.size<=b):=by
    intro b hb;obtain⟨tt,htt,hot⟩:=(cG R h x).2 b (how b hb);refine⟨λl hl'=> ?_,λlev i hlv=> ?_,.inl (.inl ⟨.fr tt,hot⟩)⟩
    ·obtain⟨a1,a2⟩:=hO l b hl';exact a1 tt htt (R.own l (.fr tt) b a2 hot)
    ·rw[hl.1]at hlv;exact R.apart (.fr tt) b lev i hot hlv
   obtain⟨cv,w',G',hrun,R2,E2⟩:=X8 (P:=P) (o:=o) (ty:=o.type) R1 E1 hd hu hi hiz hzs h1 hb2 hA hys3 hg2 hou hown;refine eU ?_ (hk _ _ _ _ w' G' hop R2 E2);simp only[execOp,ho,resolve,hc,hargs,htys,dk,fA,dq,invoke,builtin,t6,dr,iA];rw[hrun];rfl
  |false=>
  simp only[hw]at hop4;obtain⟨xs,hxs,hop⟩:=bA.1 hop4;clear hop4;obtain⟨hou,how⟩:=nz hxs (cG R h x).1;have hown: ∀b,b6 (.osl xs) (a.eval x) b->(∀l,¬bK G w (bz h.take s).fr a.tmps (μ++[(bz h.take s).lam]) l b)/\(∀lev i,b8 (bT (μ++[(bz h.take s).lam]) lev i)->G.β lev i≠b)/\(bM G w s μ a.tmps b\/w.heap.size<=b):=by
   intro b hb;obtain⟨tt,htt,hot⟩:=(cG R h x).2 b (how b hb);refine⟨λl hl'=> ?_,λlev i hlv=> ?_,.inl (.inl ⟨.fr tt,hot⟩)⟩
   ·obtain⟨a1,a2⟩:=hO l b hl';exact a1 tt htt (R.own l (.fr tt) b a2 hot)
   ·rw[hl.1]at hlv;exact R.apart (.fr tt) b lev i hot hlv
  have fin: ∀{ys:List CV} {m:Nat} {news:List Value},Appends P w xt (a.eval y) i.size m news->VRL G w (ys.flatMap CV.cells) news->ys.length=m->(∀x∈xs,x.cells.length=i.size/\jt x=true)->(∀x∈ys,x.cells.length=i.size/\jt x=true)->
   xs.length+ys.length<=1099511627776->(Nat.beq e 5||jw ys)=true->k (.osl (xs++ys)) (bz h.take s) μ=some r->o.wp P a w K Q:=by
   intro ys m news hA hyv hym hxa hya hsm hbt hkr;obtain⟨cv,w',G',hrun,R2,E2⟩:=Pr (P:=P) (o:=o) (ty:=o.type) R1 E1 hd hu hi hiz hzs hb1 hb2 hA hyv hym hxa hya hsm hbt hou hown;refine eU ?_ (hk _ _ _ _ w' G' hkr R2 E2);simp only[execOp,ho,resolve,hc,hargs,htys,dk,fA,dq,invoke,builtin,t6,dr,iA];rw[hrun];rfl
  split at hop
  ·rename_i hux;obtain⟨l,hl2,hop⟩:=bA.1 hop;obtain⟨hg,hop⟩:=bR.1 hop;simp only[cE]at hg;obtain⟨hg0,⟨hg1,hg2⟩,hg3⟩:=hg;have hg1:=fb hg1;simp only[small,dA]at hg2;have hyv:=eV R (kH hl2);simp only[VR]at hyv;obtain⟨news,hA,hn⟩:=Ps (P:=P) (G:=G) (w:=w) (l:=l) hux;have h1:i.size=1:=bu;rw[<-hyv,<-h1]at hA;refine fin hA hn bE ?_ (λx hx=> ?_) (by simpa using hg2) (by rw[hg0];rfl) hop
   ·rw[h1];exact me hg3
   ·obtain⟨b,_,rfl⟩:=ph.1 hx;exact⟨h1.symm,rfl⟩
  ·rename_i e' hux;obtain⟨ys,hys,hop⟩:=bA.1 hop;obtain⟨hg,hop⟩:=bR.1 hop;simp only[eq,cE]at hg;obtain⟨hg0,⟨hg1,hg2⟩,hg3⟩:=hg;simp only[small,dA]at hg1;have hv:=jO hys (cG R h y).1;obtain⟨news,hA,hn⟩:=Gb (P:=P) (t:=t) (e:=e) hux hv (λx hx=>((me hg3) x hx).1);rw[<-his]at hA hg2 hg3;exact fin hA hn rfl (me hg2) (me hg3) hg1 hg0 hop
  ·simp at hop
end
def cu (args:List LV):S:=⟨it (o2 0 args),[],false⟩
def Gh.withO (G:Gh)(O':Nat->Nat):Gh:={G with O:=O'}
def km (L:Nat)(T:Nat->Prop)(G:Gh)(w:World):Out->Ending->World->Prop
 | .ret v μ',.returned cv,w'=> ∃O',Rel (G.withO O') L (cu [v]) μ' #[cv] w'/\Ext L T G w (G.withO O') w' (bM (G.withO O') w' (cu [v]) μ' #[cv])| .panic v μ',.panicked ch,w'=> ∃O' pv,ch=[{v:=pv,recovered:=false}]/\VR (G.withO O') w' v pv/\Rel (G.withO O') L (cu []) μ' #[] w'/\
  Ext L T G w (G.withO O') w' (bM (G.withO O') w' (cu []) μ' #[])
 |_,_,_=>False
def Kn (W0 w:World)(T:Nat->Prop):Prop:=W0.heap.size<=w.heap.size/\ ∀b,b<W0.heap.size->w.heap[b]? =W0.heap[b]? /\ ¬T b
def Kn.ext {W0 w w':World}{T T':Nat->Prop}{L:Nat}{G G':Gh}(h:Kn W0 w T)(E:Ext L T G w G' w' T'):Kn W0 w' T':=by
 refine⟨iN h.1 E.size,λb hb=> ?_⟩;obtain⟨h1,h2⟩:=h.2 b hb;have hlt:b<w.heap.size:=u1 hb h.1;refine⟨(E.keep b hlt h2).1.trans h1,λht=> ?_⟩;rcases E.grow b ht with h3|h3
 ·exact h2 h3
 ·omega
def Kn.mono {W0 w:World}{T T':Nat->Prop}(h:Kn W0 w T)(hT: ∀b,T' b->T b):Kn W0 w T':=⟨h.1,λb hb=>⟨(h.2 b hb).1,λht=>(h.2 b hb).2 (hT b ht)⟩⟩
def fT (P:Program)(W0:World)(f:FuncId)(args:List LV)(μ:Mu)(out:Out):Prop:=
 (∃fn c,P.funcs[f]? =some fn/\fn.body=some c/\(fn.name == "runtime.NumGoroutine")=false)/\
 ∀(G:Gh) (w:World) (cargs:Array Value),cargs.size=args.length->Rel G μ.length (cu args) μ cargs w->Kn W0 w (bM G w (cu args) μ cargs)->
  Calls P f cargs w (km μ.length (bM G w (cu args) μ cargs) G w out)
section
variable {G:Gh}{w w':World}{L:Nat}{μ μ':Mu}
def qO {lev i:Nat}(h:b8 (bT (μ++[[]]) lev i)):lev<μ.length/\bT (μ++[[]]) lev i=ce μ lev i:=by
 rcases sL lev μ.length with h1|h1|h1
 ·exact⟨h1,cV h1⟩
 ·subst h1;simp only[bT,db,bU]at h;simp[b8]at h
 ·simp only[bT,nG h1]at h;exact h.elim
def jQ {fr:Fr}{tm:Array Value}{H:Mu}{lev i k b:Nat}(h:bK G w fr tm H (.ob lev i k) b):b8 (bT H lev i):=by
 simp only[bK]at h;split at h
 ·rename_i cs hcs;rw[hcs];trivial
 simp_all
def jR {G':Gh}{fr fr':Fr}{tm tm':Array Value}{H H':Mu}{lev i k b:Nat}(ho:bT H' lev i=bT H lev i)(hβ:G'.β lev i=G.β lev i)(hb:w'.heap[G.β lev i]? =w.heap[G.β lev i]?)
 (h:bK G' w' fr' tm' H' (.ob lev i k) b):bK G w fr tm H (.ob lev i k) b:=by
 simp only[bK,ho,hβ,hb]at h |-;exact h
def Rel.mergeU {s sr:S}{tm tmr:Array Value}{T:Nat->Prop}{O':Nat->Nat}(R:Rel G L s μ tm w)(hp:s.pushed=false)
 (hT: ∀b,T b->(∀t,¬b6 (s.fr t) (tm.getD t undef) b)/\(∀i k,¬bK G w s.fr tm (μ++[s.lam]) (.ob L i k) b)/\ ∀i,b8 (bU s.lam i)->G.β L i≠b)
 (hlam:sr.lam=[]) (Rc:Rel (G.withO O') L sr μ' tmr w') (E:Ext L T G w (G.withO O') w' (bM (G.withO O') w' sr μ' tmr)):
 Rel (G.withO O') L s μ' tm w'/\
 (∀l b,bK (G.withO O') w' s.fr tm (μ'++[s.lam]) l b->(b<w.heap.size/\ ¬T b/\bK G w s.fr tm (μ++[s.lam]) l b)\/((∃lev i k,l= .ob lev i k)/\bK (G.withO O') w' sr.fr tmr (μ'++[sr.lam]) l b))/\
 (∀lev i,b8 (bT (μ'++[s.lam]) lev i)->(G.β lev i<w.heap.size/\ ¬T (G.β lev i)/\lev=L/\b8 (bT (μ++[s.lam]) lev i))\/b8 (bT (μ'++[sr.lam]) lev i)):=by
 have hμ':=Rc.lev;have hμ:=R.lev;have hkeep: ∀b,b<w.heap.size-> ¬T b->w'.heap[b]? =w.heap[b]? /\(G.withO O').O b=G.O b:=λb hb hn=>E.keep b hb hn;have hfrT: ∀t b,b6 (s.fr t) (tm.getD t undef) b->b<w.heap.size/\ ¬T b:=λt b hb=>⟨R.touch_lt (.inl ⟨.fr t,hb⟩),λh=>(hT b h).1 t hb⟩;have hobT: ∀i k b,bK G w s.fr tm (μ++[s.lam]) (.ob L i k) b->b<w.heap.size/\ ¬T b:=λi k b hb=>⟨R.touch_lt (.inl ⟨_,hb⟩),λh=>(hT b h).2.1 i k hb⟩;have eL: ∀i,bT (μ++[s.lam]) L i=bU s.lam i:=λi=>by rw[<-hμ];exact db
 have eL': ∀i,bT (μ'++[s.lam]) L i=bU s.lam i:=λi=>by rw[<-hμ'];exact db
 have hβT: ∀i,b8 (bU s.lam i)->G.β L i<w.heap.size/\ ¬T (G.β L i):=λi hl=>⟨R.touch_lt (.inr ⟨L,i,by rw[eL];exact hl,rfl⟩),λh=>(hT _ h).2.2 i hl rfl⟩;have elt: ∀lev i,lev<L->bT (μ'++[s.lam]) lev i=bT (μ'++[sr.lam]) lev i:=λlev i h=>by rw[bT,bT,cV bu,cV bu]
 have hown: ∀l b,bK (G.withO O') w' s.fr tm (μ'++[s.lam]) l b->(b<w.heap.size/\ ¬T b/\bK G w s.fr tm (μ++[s.lam]) l b)\/((∃lev i k,l= .ob lev i k)/\bK (G.withO O') w' sr.fr tmr (μ'++[sr.lam]) l b):=by
  intro l b h;cases l with
  |fr t=>exact .inl ⟨(hfrT t b h).1,(hfrT t b h).2,h⟩|ob lev i k=>
   have hl:=jQ h;rcases fF hμ' hl with⟨h1,h2⟩|⟨rfl,h1,h2⟩
   ·exact .inr ⟨⟨_,_,_,rfl⟩,jR (elt lev i h1) rfl rfl h⟩
   ·have hl':b8 (bU s.lam i):=by rw[<-h2];exact hl
    have h3:bK G w s.fr tm (μ++[s.lam]) (.ob lev i k) b:=jR (fr':=s.fr) (tm':=tm) (by rw[eL,eL']) rfl (hkeep _ (hβT i hl').1 (hβT i hl').2).1 h;exact .inl ⟨(hobT i k b h3).1,(hobT i k b h3).2,h3⟩
 have hlive: ∀lev i,b8 (bT (μ'++[s.lam]) lev i)->(G.β lev i<w.heap.size/\ ¬T (G.β lev i)/\lev=L/\b8 (bT (μ++[s.lam]) lev i))\/b8 (bT (μ'++[sr.lam]) lev i):=by
  intro lev i hl;rcases fF hμ' hl with⟨h1,h2⟩|⟨rfl,h1,h2⟩
  ·exact .inr (by rw[<-elt lev i h1];exact hl)
  ·have hl':b8 (bU s.lam i):=by rw[<-h2];exact hl
   exact .inl ⟨(hβT i hl').1,(hβT i hl').2,rfl,by rw[eL];exact hl'⟩
 have hTr: ∀b,bM (G.withO O') w' sr μ' tmr b->T b\/w.heap.size<=b:=E.grow;refine⟨⟨hμ',λt=> ?_,λi=> ?_,Rc.mu,λlev i lev' i' h h' e=> ?_,λl l' b h h'=> ?_,λl b lev i h h' e=> ?_,Rc.nlt,R.nL,R.ngt⟩,hown,hlive⟩
 ·exact ga E.le (ct _) (λ_ _=>⟨rfl,rfl⟩) _ _ (λb hb=>hkeep b (hfrT t b hb).1 (hfrT t b hb).2) (R.fr t)
 ·refine eS E.le (ct _) (λ_ _=>⟨rfl,rfl⟩) (λhl=>hkeep _ (hβT i hl).1 (hβT i hl).2) (λcs j x cur e fz ho hx hb b' hb'=> ?_) (R.lam i);have h3:bK G w s.fr tm (μ++[s.lam]) (.ob L i j) b':=by simp only[bK,eL,ho,hx];exact⟨cur,e,fz,hb,hb'⟩
  exact hkeep b' (hobT i j b' h3).1 (hobT i j b' h3).2
 ·rcases hlive lev i h with⟨h1,h2,rfl,h3⟩|h1<;>rcases hlive lev' i' h' with⟨h1',h2',rfl,h3'⟩|h1'
  ·exact R.inj _ i _ i' h3 h3' e
  ·exfalso;have e':G.β lev i=G.β lev' i':=e;rw[e']at h1 h2;rcases hTr (G.β lev' i') (.inr ⟨lev',i',h1',rfl⟩)with hh|hh
   ·exact h2 hh
   ·omega
  ·exfalso;have e':G.β lev i=G.β lev' i':=e;rw[<-e']at h1' h2';rcases hTr (G.β lev i) (.inr ⟨lev,i,h1,rfl⟩)with hh|hh
   ·exact h2' hh
   ·omega
  ·exact Rc.inj lev i lev' i' h1 h1' e
 ·rcases hown l b h with⟨h1,h2,h3⟩|⟨⟨_,_,_,rfl⟩,h3⟩<;>rcases hown l' b h' with⟨h1',h2',h3'⟩|⟨⟨_,_,_,rfl⟩,h3'⟩
  ·exact R.own l l' b h3 h3'
  ·exfalso;rcases hTr b (.inl ⟨_,h3'⟩)with hh|hh
   ·exact h2 hh
   ·omega
  ·exfalso;rcases hTr b (.inl ⟨_,h3⟩)with hh|hh
   ·exact h2' hh
   ·omega
  ·exact Rc.own _ _ b h3 h3'
 ·have e':G.β lev i=b:=e;rcases hown l b h with⟨h1,h2,h3⟩|⟨⟨_,_,_,rfl⟩,h3⟩<;>rcases hlive lev i h' with⟨h1',h2',rfl,h3'⟩|h3'
  ·exact R.apart l b lev i h3 h3' e'
  ·rcases hTr b (.inr ⟨lev,i,h3',e'⟩)with hh|hh
   ·exact h2 hh
   ·omega
  ·subst e';rcases hTr _ (.inl ⟨_,h3⟩)with hh|hh
   ·exact h2' hh
   ·omega
  ·exact Rc.apart _ b lev i h3 h3' e'
def BM: ∀(args:List LV) (n t:Nat),it (o2 n args) t=if n<=t then(args[t-n]?).getD (.cv .undef)else .cv .undef
 |[],n,t=>by simp[o2,it]|v::r,n,t=>by
  simp only[o2,it];split
  ·simp_all
  ·rename_i h;have hne:t≠n:=λe=>by subst e;simp[q9]at h
   rw[BM r (n+1) t];grind
def fh (args:List LV)(t:Nat):(cu args).fr t=(args[t]?).getD (.cv .undef):=by simp only[cu,BM,ox,cQ,ua]
def OP {nl nl' L':Nat}{x:LV}{v:Value}(hx:m6 x=true)(h:LVR G w L nl x v):LVR G w L' nl' x v:=by cases x<;>simp only[m6,d6]at hx<;>simpa[LVR]using h
def Rel.enterU {s:S}{tm cargs:Array Value}{args:List LV}(R:Rel G L s μ tm w)(hp:s.pushed=false)(hv: ∀j x,args[j]? =some x->m6 x=true/\LVR G w L s.lam.length x (cargs.getD j undef))
 (ho: ∀j x b,args[j]? =some x->b6 x (cargs.getD j undef) b->(∃t,b6 (s.fr t) (tm.getD t undef) b)/\ ∀j' x',args[j']? =some x'->b6 x' (cargs.getD j' undef) b->j'=j):
 Rel G L (cu args) μ cargs w/\
 (∀l b,bK G w (cu args).fr cargs (μ++[(cu args).lam]) l b->(∃j x,l= .fr j/\args[j]? =some x/\b6 x (cargs.getD j undef) b)\/(∃lev i k,l= .ob lev i k/\lev<L/\bK G w s.fr tm (μ++[s.lam]) l b))/\
 (∀lev i,b8 (bT (μ++[(cu args).lam]) lev i)->lev<L/\b8 (bT (μ++[s.lam]) lev i)):=by
 have hμ:=R.lev;have hlive: ∀lev i,b8 (bT (μ++[(cu args).lam]) lev i)->lev<L/\b8 (bT (μ++[s.lam]) lev i):=by intro lev i h;obtain⟨h1,h2⟩:=qO h;refine⟨bu,?_⟩;have h3:bT (μ++[s.lam]) lev i=ce μ lev i:=cV h1;rw[h3,<-h2];exact h
 have hown: ∀l b,bK G w (cu args).fr cargs (μ++[(cu args).lam]) l b->(∃j x,l= .fr j/\args[j]? =some x/\b6 x (cargs.getD j undef) b)\/(∃lev i k,l= .ob lev i k/\lev<L/\bK G w s.fr tm (μ++[s.lam]) l b):=by
  intro l b h;cases l with
  |fr t=>
   simp only[bK,fh]at h;cases hx:args[t]? with|none=>rw[hx]at h;simp[b6]at h|some x=>rw[hx]at h;exact .inl ⟨t,x,rfl,hx,h⟩
  |ob lev i k=>have hl:=jQ h;obtain⟨h1,h2⟩:=qO hl;refine .inr ⟨lev,i,k,rfl,bu,jR (fr':=(cu args).fr) (tm':=cargs) ?_ rfl rfl h⟩;rw[show bT (μ++[(cu args).lam]) lev i=ce μ lev i from h2];exact(cV h1).symm
 refine⟨⟨hμ,λt=> ?_,λi=> ?_,R.mu,λlev i lev' i' h h' e=>R.inj lev i lev' i' (hlive lev i h).2 (hlive lev' i' h').2 e,λl l' b h h'=> ?_,λl b lev i h h' e=> ?_,R.nlt,?_,R.ngt⟩,hown,hlive⟩
 ·rw[fh];cases hx:args[t]? with|none=>simp[LVR,VR]|some x=>exact OP (hv t x hx).1 (hv t x hx).2
 ·have:bU (cu args).lam i= .dead:=by simp[cu,bU]
  rw[this];trivial
 ·rcases hown l b h with⟨j,x,rfl,hx,hox⟩|⟨lev,i,k,rfl,hlt,h1⟩<;>rcases hown l' b h' with⟨j',x',rfl,hx',hox'⟩|⟨lev',i',k',rfl,hlt',h1'⟩
  ·rw[(ho j x b hx hox).2 j' x' hx' hox']
  ·obtain⟨t,ht⟩:=(ho j x b hx hox).1;exact absurd (R.own (.fr t) _ b ht h1') bE
  ·obtain⟨t,ht⟩:=(ho j' x' b hx' hox').1;exact absurd (R.own (.fr t) _ b ht h1) bE
  ·exact R.own _ _ b h1 h1'
 ·rcases hown l b h with⟨j,x,rfl,hx,hox⟩|⟨lev',i',k,rfl,hlt,h1⟩
  ·obtain⟨t,ht⟩:=(ho j x b hx hox).1;exact R.apart (.fr t) b lev i ht (hlive lev i h').2 e
  ·exact R.apart _ b lev i h1 (hlive lev i h').2 e
 ·have:=R.nL;rw[hp]at this;simpa[cu]using this
end
section
variable {P:Program}{W0:World}{ρ:Rho}{α:Type}{L:Nat}{G:Gh}{w:World}{s:S}{μ:Mu}{a:Act}{o:Oper}{h:OpHint}{k:LV->S->Mu->Option α}{p:CV->S->Mu->Option α}{r:α}{K:Act->World->Prop}{Q:Exit->Act->World->Prop}
def JE {h:OpHint}{x:Operand}{b:Nat}(ho:b6 (evA h s.fr x) (a.eval x) b): ∃t,x= .tmp t/\t∈h.take/\b6 (s.fr t) (a.tmps.getD t undef) b:=by
 cases x with
 |tmp t=>
  simp only[evA,Act.eval]at ho;cases ht:jH h.take t with|true=>rw[ht]at ho;exact⟨t,rfl,gw.1 ht,ho⟩|false=>rw[ht]at ho;exact absurd ho ng
 |const c=>exact absurd ho FW|global g=>simp[evA,b6]at ho|func f=>simp[evA,b6]at ho
def Fj: ∀{l:List Operand} {t j:Nat},l[j]? =some (.tmp t)->Fi t l=true
 |[],t,j,h=>by simp at h|x::r,t,0,h=>by simp only[ft,bP]at h;subst h;simp[Fi,q9]|x::r,t,j+1,h=>by have ih:=Fj (l:=r) (t:=t) (j:=j) (by simpa using h);cases x<;>simp only[Fi,ih];split<;>rfl
def qC {x:Operand}{r:List Operand}(h:kF (x::r)=true):kF r=true/\ ∀t,x= .tmp t->Fi t r=false:=by
 cases x<;>simp only[kF]at h
 ·grind
 all_goals exact⟨h,λt e=>by cases e⟩
def zM: ∀{l:List Operand},kF l=true-> ∀{t j j':Nat},l[j]? =some (.tmp t)->l[j']? =some (.tmp t)->j=j'
 |[],_,t,j,j',h,_=>by simp at h|x::r,hd,t,0,0,_,_=>rfl|x::r,hd,t,0,j'+1,h,h'=>by simp only[ft,bP]at h;have:=Fj (l:=r) (t:=t) (j:=j') (by simpa using h');rw[(qC hd).2 t h]at this;cases this|x::r,hd,t,j+1,0,h,h'=>by simp only[ft,bP]at h';have:=Fj (l:=r) (t:=t) (j:=j) (by simpa using h);rw[(qC hd).2 t h']at this;cases this|x::r,hd,t,j+1,j'+1,h,h'=>by have:=zM (qC hd).1 (t:=t) (j:=j) (j':=j') (by simpa using h) (by simpa using h');omega
def zR: ∀{l:List LV},kM l=true-> ∀{j:Nat} {x:LV},l[j]? =some x->m6 x=true
 |[],_,j,x,h=>by simp at h|y::r,hp,j,x,h=>by
  simp only[kM]at hp;split at hp<;>try(simp at hp;done)
  cases j with|zero=>simp only[ft,bP]at h;subst h;assumption|succ j=>exact zR hp (by simpa using h)
def Calls.mono {f:FuncId}{args:Array Value}{R R':Ending->World->Prop}(h:Calls P f args w R)(hR: ∀e w',R e w'->R' e w'):Calls P f args w R':=by intro cs;obtain⟨e,w',fr,h1,h2⟩:=h cs;grind
structure ArgsR (G:Gh) (w:World) (L:Nat) (s:S) (tm:Array Value) (ts:List Nat) (args:List LV) (cargs:Array Value):Prop where
 size:cargs.size=args.length
 val: ∀j x,args[j]? =some x->LVR G w L s.lam.length x (cargs.getD j undef)
 own: ∀j x b,args[j]? =some x->b6 x (cargs.getD j undef) b->(∃t,t∈ts/\b6 (s.fr t) (tm.getD t undef) b)/\ ∀j' x',args[j']? =some x'->b6 x' (cargs.getD j' undef) b->j'=j
def abL (R:Rel G L s μ a.tmps w){h:OpHint}{l:List Operand}(hd:kF l=true){caps:List LV}{vs:List Value}(hc:en G w L s.lam.length caps vs):
 ArgsR G w L s a.tmps h.take (l.map (evA h s.fr)++caps) (l.map a.eval++vs).toArray:=by
 obtain⟨hcl,hcg⟩:=xS hc;have hgl: ∀j x,(l.map (evA h s.fr)++caps)[j]? =some x->(j<l.length/\ ∃y,l[j]? =some y/\x=evA h s.fr y/\(l.map a.eval++vs).toArray.getD j undef=a.eval y)\/
  (LVR G w L s.lam.length x ((l.map a.eval++vs).toArray.getD j undef)/\vI x=false):=by
  intro j x hx;by_cases hj:j<l.length
  ·left;rw[gK (by simpa using hj)]at hx;simp only[gM,qn]at hx;obtain⟨y,hy,rfl⟩:=hx;refine⟨hj,y,hy,rfl,?_⟩;simp only[ex,I6];rw[gK (by simpa using hj)];simp[hy]
  ·right;rw[jy b7]at hx;obtain⟨v,hv,h1,h2⟩:=hcg _ x hx;refine⟨?_,h2⟩;simp only[ex,I6];rw[jy b7];simp only[ly]at hv |-;rw[hv];exact h1
 refine⟨by simp[hcl],λj x hx=> ?_,λj x b hx ho=> ?_⟩
 ·rcases hgl j x hx with⟨_,y,_,rfl,e⟩|⟨h1,_⟩
  ·rw[e];exact(cG R h y).1
  ·exact h1
 ·rcases hgl j x hx with⟨_,y,hy,rfl,e⟩|⟨_,h2⟩
  ·rw[e]at ho;obtain⟨t,rfl,ht,hot⟩:=JE (a:=a) ho;refine⟨⟨t,ht,hot⟩,λj' x' hx' ho'=> ?_⟩;rcases hgl j' x' hx' with⟨_,y',hy',rfl,e'⟩|⟨_,h2⟩
   ·rw[e']at ho';obtain⟨t',rfl,ht',hot'⟩:=JE (a:=a) ho';have:=R.own (.fr t) (.fr t') b hot hot';injection this with this;subst this;exact zM hd hy' hy
   ·exact absurd ho' (uh h2)
  ·exact absurd ho (uh h2)
def abQ {f:FuncId}{args:List LV}{cargs:Array Value}(R:Rel G L s μ a.tmps w)(hd: ∀d,o.dst=some d->d<a.tmps.size)(hk:KOK L G w s μ a o.dst k r K)(hpk:POK L G w s μ a p r Q)
 (hrho: ∀f args μ out,ρ.call f args μ=some out->fT P W0 f args μ out) (hkn:Kn W0 w (bM G w s μ a.tmps)) (hp:s.pushed=false) (hpl:kM args=true) (A:ArgsR G w L s a.tmps h.take args cargs)
 (hrun:(∃fn c,P.funcs[f]? =some fn/\fn.body=some c/\(fn.name == "runtime.NumGoroutine")=false)->(execOp a.eval o).run P w= .ok (.enter f cargs) w)
 (hop:callK (ρ.call f args μ) (λv μ=>fq P h.own o.type v λv=>k v (bz h.take s) μ) (λv μ=>p v (bz h.take s) μ)=some r):o.wp P a w K Q:=by
 obtain⟨out,hout,hop⟩:=bA.1 hop;obtain⟨hfn,hM⟩:=hrho _ _ _ _ hout;have hμ:=R.lev;obtain⟨R1,E1,hO⟩:=fI R h.take;have hl:=cq h.take s;obtain⟨Re,hown,hlive⟩:=R.enterU (tm:=a.tmps) (args:=args) (cargs:=cargs) hp (λj x hx=>⟨zR hpl hx,A.val j x hx⟩) (λj x b hx ho=>⟨(A.own j x b hx ho).1.imp λt h=>h.2,(A.own j x b hx ho).2⟩);have hT: ∀b,bM G w (cu args) μ cargs b->(∀t,¬b6 ((bz h.take s).fr t) (a.tmps.getD t undef) b)/\(∀i k,¬bK G w (bz h.take s).fr a.tmps (μ++[(bz h.take s).lam]) (.ob L i k) b)/\ ∀i,b8 (bU (bz h.take s).lam i)->G.β L i≠b:=by
  have eL: ∀i,bT (μ++[s.lam]) L i=bU s.lam i:=λi=>by rw[<-hμ];exact db
  rintro b (⟨l,hb⟩|⟨lev,i,hb,rfl⟩)
  ·rcases hown l b hb with⟨j,x,rfl,hx,ho⟩|⟨lev,i,k,rfl,hlt,ho⟩
   ·obtain⟨⟨u,hu,hou⟩,_⟩:=A.own j x b hx ho;refine⟨λt ht=> ?_,λi k hik=> ?_,λi hi=> ?_⟩
    ·obtain⟨a1,a2⟩:=hO (.fr t) b ht;exact a1 u hu (R.own _ (.fr u) b a2 hou)
    ·obtain⟨a1,a2⟩:=hO _ b hik;exact a1 u hu (R.own _ (.fr u) b a2 hou)
    ·rw[hl.1]at hi;exact R.apart (.fr u) b L i hou (by rw[eL];exact hi)
   ·refine⟨λt ht=> ?_,λi' k' hik=> ?_,λi' hi=> ?_⟩
    ·have:=R.own _ _ b (hO (.fr t) b ht).2 ho;cases this
    ·have:=R.own _ _ b (hO _ b hik).2 ho;injection this with h1 h2 h3;omega
    ·rw[hl.1]at hi;exact R.apart _ b L i' ho (by rw[eL];exact hi)
  ·obtain⟨hlt,hl2⟩:=hlive lev i hb;refine⟨λt ht=>R.apart _ _ lev i (hO (.fr t) _ ht).2 hl2 rfl,λi' k' hik=>R.apart _ _ lev i (hO _ _ hik).2 hl2 rfl,λi' hi e=> ?_⟩;rw[hl.1]at hi;have:=(R.inj L i' lev i (by rw[eL];exact hi) hl2 e).1;omega
 have hT0: ∀b,bM G w (cu args) μ cargs b->bM G w s μ a.tmps b:=by
  rintro b (⟨l,hb⟩|⟨lev,i,hb,rfl⟩)
  ·rcases hown l b hb with⟨j,x,rfl,hx,ho⟩|⟨lev,i,k,rfl,hlt,ho⟩
   ·obtain⟨⟨u,hu,hou⟩,_⟩:=A.own j x b hx ho;exact .inl ⟨.fr u,hou⟩
   ·exact .inl ⟨_,ho⟩
  ·exact .inr ⟨lev,i,(hlive lev i hb).2,rfl⟩
 have hcall:=hM G w cargs A.size (by rw[hμ];exact Re) (hkn.mono hT0);rw[hμ]at hcall;unfold Oper.wp;rw[hrun hfn,Oper.upon_enter];refine hcall.mono λe w' hR=> ?_;have merge: ∀{O':Nat->Nat} {sr:S} {μ':Mu} {tmr:Array Value},sr.lam=[]->Rel (G.withO O') L sr μ' tmr w'->Ext L (bM G w (cu args) μ cargs) G w (G.withO O') w' (bM (G.withO O') w' sr μ' tmr)->
  Rel (G.withO O') L (bz h.take s) μ' a.tmps w'/\Ext L (bM G w s μ a.tmps) G w (G.withO O') w' (bM (G.withO O') w' (bz h.take s) μ' a.tmps)/\
  (∀b,bM (G.withO O') w' sr μ' tmr b->(bM G w s μ a.tmps b\/w.heap.size<=b))/\
  (∀ t b, bK (G.withO O') w' sr.fr tmr (μ' ++ [sr.lam]) (.fr t) b -> (∀ l, ¬ bK (G.withO O') w' (bz h.take s).fr a.tmps (μ' ++ [(bz h.take s).lam]) l b) /\
   ∀lev i,b8 (bT (μ'++[(bz h.take s).lam]) lev i)->(G.withO O').β lev i≠b):=by
  intro O' sr μ' tmr hlam Rc E;obtain⟨R2,h2,h3⟩:=R1.mergeU (by rw[hl.2];exact hp) hT hlam Rc E;have hin: ∀b,bM (G.withO O') w' sr μ' tmr b->(bM G w s μ a.tmps b\/w.heap.size<=b):=λb hb=>(E.grow b hb).imp (hT0 b) id;refine⟨R2,⟨E.le,E.os,E.tape,E.output,E.size,λb hb hn=>E.keep b hb λhh=>hn (hT0 b hh),λb hb=> ?_,E.lev⟩,hin,λt b hb=>⟨λl hl'=> ?_,λlev i hli e=> ?_⟩⟩
  ·rcases hb with⟨l,hb⟩|⟨lev,i,hb,rfl⟩
   ·rcases h2 l b hb with⟨_,_,h4⟩|⟨_,h4⟩
    ·exact .inl (.inl ⟨l,(hO l b h4).2⟩)
    ·exact hin b (.inl ⟨l,h4⟩)
   ·rcases h3 lev i hb with⟨_,_,_,h4⟩|h4
    ·rw[hl.1]at h4;exact .inl (.inr ⟨lev,i,h4,rfl⟩)
    ·exact hin _ (.inr ⟨lev,i,h4,rfl⟩)
  ·rcases h2 l b hl' with⟨h4,h5,_⟩|⟨⟨_,_,_,rfl⟩,h4⟩
   ·rcases E.grow b (.inl ⟨_,hb⟩)with hh|hh
    ·exact h5 hh
    ·omega
   ·have:=Rc.own _ _ b hb h4;cases this
  ·rcases h3 lev i hli with⟨h4,h5,_,_⟩|h4
   ·have e':G.β lev i=b:=e;rw[e']at h4 h5;rcases E.grow b (.inl ⟨_,hb⟩)with hh|hh
    ·exact h5 hh
    ·omega
   ·exact Rc.apart _ b lev i hb h4 e
 cases out with
 |ret v μ'=>
  cases e with
  |returned cv=>
   simp only[km]at hR;obtain⟨O',Rc,E⟩:=hR;obtain⟨R2,E2,hin,hfr⟩:=merge rfl Rc E;obtain⟨y,hy,hyr⟩:=j4 hop;have hv:LVR (G.withO O') w' L 0 v cv:=by have:=Rc.fr 0;simp only[fh,ft,ia]at this;simpa[cu]using this
   have hv2:LVR (G.withO O') w' L (bz h.take s).lam.length v cv:=ga (Le.refl _ _) (ox _) (λ_ _=>⟨rfl,rfl⟩) v cv (λ_ _=>⟨rfl,rfl⟩) hv;obtain⟨hy1,hy2⟩:=hyr (G.withO O') w' L _ cv hv2
   obtain ⟨R3, E3⟩ := eQ (dst := o.dst) (v := y) (cv := cv) R2 E2 hy1 (λb hb => by
    have hat:bK (G.withO O') w' (cu [v]).fr #[cv] (μ'++[(cu [v]).lam]) (.fr 0) b:=by have:=hy2 b hb;simpa[bK,fh]using this
    exact⟨(hfr 0 b hat).1,(hfr 0 b hat).2,hin b (.inl ⟨_,hat⟩)⟩) hd
   exact hk y _ μ' cv w' _ hy R3 E3
  |panicked ch=>simp[km]at hR|outgrown=>simp[km]at hR
 |panic v μ'=>
  cases e with
  |returned cv=>simp[km]at hR|panicked ch=>simp only[km]at hR;obtain⟨O',pv,rfl,hv,Rc,E⟩:=hR;obtain⟨R2,E2,_,_⟩:=merge rfl Rc E;exact hpk v _ μ' pv w' _ hop R2 hv E2
  |outgrown=>simp[km]at hR
end
def Gh.push (G:Gh)(L n:Nat):Gh:={G with n:=λx=>if x=L then n else G.n x}
section
variable {G G3:Gh}{w w':World}{L:Nat}{μ μ':Mu}
def zW {nl:Nat}{x:LV}{v:Value}{c:CV}(hle:Le G w G3 w)(hβ: ∀i,i<nl->i<G3.n L/\G3.β L i=G.β L i/\G3.sz L i=G.sz L i)(h:LVR G w L nl x v)(hc:sB L x=some c):VR G3 w c v:=by
 cases x<;>simp only[sB,bP,reduceCtorEq]at hc<;>subst hc<;>simp only[LVR]at h
 ·exact de hle _ _ h
 ·exact de hle _ _ (lL h)
 ·simp only[VR];simp_all
 ·simp only[VR];obtain⟨h1,cap,cur,e,fz,h2,h3,_,h4,h5⟩:=h;simp_all
 ·simp only[VR];simp_all
 ·simp only[VR];simp_all
def xn {nl:Nat}: ∀{xs:List LV} {vs:List Value} {cs:List CV} (hle:Le G w G3 w) (hβ: ∀i,i<nl->i<G3.n L/\G3.β L i=G.β L i/\G3.sz L i=G.sz L i) (h:en G w L nl xs vs) (hc:ql L xs=some cs),VRL G3 w cs vs
 |[],vs,cs,hle,hβ,h,hc=>by simp only[ql,bP]at hc;subst hc;simp only[en]at h;simpa[VRL]using h|x::xs,vs,cs,hle,hβ,h,hc=>by simp only[ql]at hc;obtain⟨c,h1,hc⟩:=bA.1 hc;obtain⟨r,h2,hc⟩:=bA.1 hc;simp only[bP]at hc;subst hc;simp only[en]at h;obtain⟨v,vr,e,_,h3,h4⟩:=h;simp only[VRL];exact⟨v,vr,e,zW hle hβ h3 h1,xn hle hβ h4 h2⟩
def rB {nl L' nl':Nat}{x y:LV}{v:Value}(hle:Le G w G3 w)(hO:G3.O=G.O)(hβ: ∀i,i<nl->i<G3.n L/\G3.β L i=G.β L i/\G3.sz L i=G.sz L i)(h:LVR G w L nl x v)(hy:Dd L x=some y):
 LVR G3 w L' nl' y v/\ ∀b,b6 y v b↔b6 x v b:=by
 unfold Dd at hy;split at hy
 ·simp only[bP]at hy;subst hy;exact⟨by simp only[LVR]at h |-; exact pr hle (λ_ _ _ _=>⟨rfl,by rw[hO]⟩) h,λb=>pm⟩
 ·obtain⟨cs,h1,hy⟩:=bA.1 hy;simp only[bP]at hy;subst hy;simp only[LVR,VR]at h |-;obtain⟨vs,e,hl⟩:=h;exact⟨⟨vs,e,xn hle hβ hl h1⟩,λb=>by simp[b6]⟩
 ·obtain⟨c,h1,hy⟩:=bA.1 hy;simp only[bP]at hy;subst hy;refine⟨by simp only[LVR];exact zW hle hβ h h1,λb=> ?_⟩;rename_i n1 n2;cases x<;>first|exact(n1 _ rfl).elim|(simp[sB]at h1;done)|simp[b6]
def lw: ∀{xs ys:List LV},k7 L xs=some ys->ys.length=xs.length/\ ∀(j:Nat) y,ys[j]? =some y-> ∃x,xs[j]? =some x/\Dd L x=some y
 |[],ys,h=>by simp only[k7,bP]at h;subst h;exact⟨rfl,λj y hy=>by simp at hy⟩|x::xs,ys,h=>by simp only[k7]at h;obtain⟨y,h1,h⟩:=bA.1 h;obtain⟨r,h2,h⟩:=bA.1 h;simp only[bP]at h;subst h;obtain⟨h3,h4⟩:=lw h2;grind
inductive ObOuter (L:Nat):Ob->Ob->Prop where
 |dead:ObOuter L .dead .dead|arr {sz cs}:ObOuter L (.arr sz cs) (.arr sz cs)|map {ks vs}:ObOuter L (.map ks vs) (.map ks vs)|cells {cs ds}:k7 L cs=some ds->ObOuter L (.cells cs) (.cells ds)
def m5: ∀{l l':Lam},iv L l=some l'->l'.length=l.length/\ ∀i,ObOuter L (bU l i) (bU l' i)
 |[],l',h=>by simp only[iv,bP]at h;subst h;exact⟨rfl,λi=>by simp only[bU,List.getElem?_nil];exact .dead⟩| .dead::l,l',h=>by
  simp only[iv]at h;obtain⟨r,h1,h⟩:=bA.1 h;simp only[bP]at h;subst h;obtain⟨h2,h3⟩:=m5 h1;refine⟨by simp[h2],λi=> ?_⟩;cases i with|zero=>exact .dead|succ i=>exact h3 i
 | .arr sz cs::l,l',h=>by
  simp only[iv]at h;obtain⟨r,h1,h⟩:=bA.1 h;simp only[bP]at h;subst h;obtain⟨h2,h3⟩:=m5 h1;refine⟨by simp[h2],λi=> ?_⟩;cases i with|zero=>exact .arr|succ i=>exact h3 i
 | .map ks vs::l,l',h=>by
  simp only[iv]at h;obtain⟨r,h1,h⟩:=bA.1 h;simp only[bP]at h;subst h;obtain⟨h2,h3⟩:=m5 h1;refine⟨by simp[h2],λi=> ?_⟩;cases i with|zero=>exact .map|succ i=>exact h3 i
 | .cells cs::l,l',h=>by
  simp only[iv]at h;obtain⟨ds,h0,h⟩:=bA.1 h;obtain⟨r,h1,h⟩:=bA.1 h;simp only[bP]at h;subst h;obtain⟨h2,h3⟩:=m5 h1;refine⟨by simp[h2],λi=> ?_⟩;cases i with|zero=>exact .cells h0|succ i=>exact h3 i
def ObOuter.live {o o':Ob}(h:ObOuter L o o'):b8 o'↔b8 o:=by cases h<;>exact pm
def qu {nl:Nat}(hn: ∀i,i<G.n L->i<nl):Le G w (G.push L nl) w:=by refine⟨λ_ _ _ h hb=>⟨h,hb⟩,λlev i h=>⟨?_,rfl,rfl⟩,λ_ _ _ h hc=>⟨h,hc⟩,λb cur e fz h=>⟨cur,fz,h,rfl⟩⟩;simp only[Gh.push];grind
mutual
def Er {L' nl':Nat}: ∀(x:LV) (v:Value),LVR G w L 0 x v->LVR G w L' nl' x v
 | .cv c,v,h=>by simpa[LVR]using h| .osl xs,v,h=>by simpa[LVR]using h| .ost xs,v,h=>by simpa[LVR]using h| .stl n,v,h=>by simpa[LVR]using h| .loc i off,v,h=>by simp only[LVR]at h;omega| .lsl i off len,v,h=>by simp only[LVR]at h;omega| .mloc i,v,h=>by simp only[LVR]at h;omega| .tloc i t n,v,h=>by simp only[LVR]at h;omega| .lclo f caps,v,h=>by simp only[LVR]at h |-;obtain⟨vs,e,hl⟩:=h;exact⟨vs,e,Ab caps _ hl⟩
 | .ltup xs,v,h=>by simp only[LVR]at h |-;obtain⟨vs,e,hl⟩:=h;exact⟨vs,e,Ab xs _ hl⟩
def Ab {L' nl':Nat}: ∀(xs:List LV) (vs:List Value),en G w L 0 xs vs->en G w L' nl' xs vs
 |[],vs,h=>by simpa[en]using h|x::xs,vs,h=>by simp only[en]at h |-;obtain⟨v,r,e,h0,h1,h2⟩:=h;exact⟨v,r,e,h0,Er x v h1,Ab xs r h2⟩
end
def Rel.enterP {s:S}{tm cargs:Array Value}{args args':List LV}{l:Lam}{ts:List Nat}(R:Rel G L s μ tm w)(A:ArgsR G w L s tm ts args cargs)(ha:k7 L args=some args')(hl:iv L s.lam=some l):
 Rel (G.push L s.lam.length) (L+1) (cu args') (μ++[l]) cargs w/\
 (∀q b,bK (G.push L s.lam.length) w (cu args').fr cargs ((μ++[l])++[(cu args').lam]) q b->(∃j x,q= .fr j/\args[j]? =some x/\b6 x (cargs.getD j undef) b)\/(∃lev i k,q= .ob lev i k/\bK G w s.fr tm (μ++[s.lam]) q b))/\
 (∀lev i,b8 (bT ((μ++[l])++[(cu args').lam]) lev i)->b8 (bT (μ++[s.lam]) lev i)):=by
 have hμ:=R.lev;obtain⟨hll,hlg⟩:=m5 hl;obtain⟨hal,hag⟩:=lw ha;have hnL: ∀i,i<G.n L->i<s.lam.length:=λi hi=>by have:=R.nL;split at this<;>omega
 have hle:Le G w (G.push L s.lam.length) w:=qu hnL;have hleB:Le G w ((G.push L s.lam.length).below L) w:=by
  refine⟨λ_ _ _ h hb=>⟨h,hb⟩,λlev i h=>⟨?_,rfl,rfl⟩,λ_ _ _ h hc=>⟨h,hc⟩,λb cur e fz h=>⟨cur,fz,h,rfl⟩⟩;have hlv:lev<=L:=by
   by_cases hh:lev<=L
   ·exact hh
   ·have:=R.ngt lev bu;omega
  simp only[Gh.below,bC hlv,Gh.push];split
  ·rename_i e;subst e;exact hnL i h
  ·exact h
 have hnB: ∀i,i<s.lam.length->i<(G.push L s.lam.length).n L/\(G.push L s.lam.length).β L i=G.β L i/\(G.push L s.lam.length).sz L i=G.sz L i:=λi hi=>⟨by simp only[Gh.push,cQ];exact hi,rfl,rfl⟩;have hnB2: ∀i,i<s.lam.length->i<((G.push L s.lam.length).below L).n L/\((G.push L s.lam.length).below L).β L i=G.β L i/\((G.push L s.lam.length).below L).sz L i=G.sz L i:=λi hi=>⟨by simp only[Gh.below,ct,Gh.push,cQ];exact hi,rfl,rfl⟩;have eL: ∀i,bT (μ++[s.lam]) L i=bU s.lam i:=λi=>by rw[<-hμ];exact db
 have eL2: ∀i,ce (μ++[l]) L i=bU l i:=λi=>by rw[<-hμ];exact db
 have eO: ∀lev i,b8 (bT ((μ++[l])++[(cu args').lam]) lev i)->(lev<L/\bT ((μ++[l])++[(cu args').lam]) lev i=bT (μ++[s.lam]) lev i)\/(lev=L/\bT ((μ++[l])++[(cu args').lam]) lev i=bU l i):=by
  intro lev i h;obtain⟨h1,h2⟩:=qO h;simp only[ef,dz,fL]at h1;by_cases hlt:lev<L
  ·refine .inl ⟨hlt,?_⟩;rw[show bT ((μ++[l])++[(cu args').lam]) lev i=ce (μ++[l]) lev i from h2,cV bu,bT,cV bu]
  ·have:lev=L:=bu;subst this;exact .inr ⟨rfl,by rw[show bT ((μ++[l])++[(cu args').lam]) lev i=ce (μ++[l]) lev i from h2,eL2]⟩
 have hlive: ∀lev i,b8 (bT ((μ++[l])++[(cu args').lam]) lev i)->b8 (bT (μ++[s.lam]) lev i):=by
  intro lev i h;rcases eO lev i h with⟨_,e⟩|⟨rfl,e⟩
  ·rw[<-e];exact h
  ·rw[eL];rw[e]at h;exact(hlg i).live.1 h
 have hown: ∀q b,bK (G.push L s.lam.length) w (cu args').fr cargs ((μ++[l])++[(cu args').lam]) q b->(∃j x,q= .fr j/\args[j]? =some x/\b6 x (cargs.getD j undef) b)\/(∃lev i k,q= .ob lev i k/\bK G w s.fr tm (μ++[s.lam]) q b):=by
  intro q b h;cases q with
  |fr t=>
   simp only[bK,fh]at h;cases hx:args'[t]? with
   |none=>rw[hx]at h;simp[b6]at h|some y=>rw[hx]at h;obtain⟨x,hx2,hxy⟩:=hag t y hx;exact .inl ⟨t,x,rfl,hx2,((rB (L':=L) (nl':=0) hle rfl hnB (A.val t x hx2) hxy).2 b).1 h⟩
  |ob lev i k=>
   have hl':=jQ h;refine .inr ⟨lev,i,k,rfl,?_⟩;rcases eO lev i hl' with⟨_,e⟩|⟨rfl,e⟩
   ·exact jR (fr':=(cu args').fr) (tm':=cargs) e rfl rfl h
   ·simp only[bK,e]at h;split at h<;>try(exact h.elim)
    rename_i ds hds;split at h<;>try(exact h.elim)
    rename_i y hy;obtain⟨cur,e',fz,hb,ho⟩:=h;have hoo:=hlg i;rw[hds]at hoo;generalize hq:bU s.lam i=q at hoo;cases hoo with
    |cells hto=>rename_i cs;obtain⟨_,hg⟩:=lw hto;obtain⟨x,hx,hxy⟩:=hg k y hy;have hob:=R.lam i;rw[hq]at hob;simp only[ObR]at hob;obtain⟨cur2,e2,fz2,hb2,_,_,_,hr⟩:=hob;have hb':w.heap[G.β lev i]? =some (.cells cur e' fz):=hb;rw[hb2]at hb';obtain⟨rfl,rfl,rfl⟩:=(kV ..).mp (iM hb');simp only[bK,eL,hq,hx];exact⟨cur2,e2,fz2,hb2,((rB (L':=lev) (nl':=0) hle rfl hnB (hr k x hx) hxy).2 b).1 ho⟩
 refine⟨⟨by simp[hμ],λt=> ?_,λi=> ?_,λlev i hlt=> ?_,λlev i lev' i' h h' e=>R.inj lev i lev' i' (hlive lev i h) (hlive lev' i' h') e,λq q' b h h'=> ?_,λq b lev i h h' e=> ?_,λlev hlt=> ?_,?_,λlev hlt=> ?_⟩,hown,hlive⟩
 ·rw[fh];cases hx:args'[t]? with
  |none=>simp[LVR,VR]|some y=>obtain⟨x,hx2,hxy⟩:=hag t y hx;exact(rB hle rfl hnB (A.val t x hx2) hxy).1
 ·have:bU (cu args').lam i= .dead:=by simp[cu,bU]
  rw[this];trivial
 ·by_cases h1:lev<L
  ·have e1:ce (μ++[l]) lev i=ce μ lev i:=cV bu;rw[e1];have hle2:Le (G.below lev) w ((G.push L s.lam.length).below lev) w:=hle.below lev;exact eS hle2 (ct _) (λ_ h=>by omega) (λ_=>⟨rfl,rfl⟩) (λ_ _ _ _ _ _ _ _ _ _ _=>⟨rfl,rfl⟩) (R.mu lev i h1)
  ·have:lev=L:=bu;subst this;rw[eL2];have hoo:=hlg i;have hob:=R.lam i;revert hob hoo;generalize bU s.lam i=q;generalize bU l i=q';intro hoo hob;cases hoo with
   |dead=>trivial|arr=>simp only[ObR]at hob |-;obtain⟨hk,cur,e,fz,h1,h2,h3,h4,h5⟩:=hob;exact⟨hk,cur,e,fz,h1,h2,h3,h4,λj x hx=>de hleB x _ (h5 j x hx)⟩
   |map=>simp only[ObR]at hob |-;obtain⟨es,clk,h1,h2,h3⟩:=hob;exact⟨es,clk,h1,h2,rF hleB h3⟩
   |cells hto=>obtain⟨hln,hg⟩:=lw hto;simp only[ObR]at hob |-;obtain⟨cur,e,fz,h1,h2,h3,h4,h5⟩:=hob;refine⟨cur,e,fz,h1,h2,h3,by rw[hln];exact h4,λj y hy=> ?_⟩;obtain⟨x,hx,hxy⟩:=hg j y hy;exact(rB hleB rfl hnB2 (h5 j x hx) hxy).1
 ·rcases hown q b h with⟨j,x,rfl,hx,hox⟩|⟨lev,i,k,rfl,h1⟩<;>rcases hown q' b h' with⟨j',x',rfl,hx',hox'⟩|⟨lev',i',k',rfl,h1'⟩
  ·rw[(A.own j x b hx hox).2 j' x' hx' hox']
  ·obtain⟨t,_,ht⟩:=(A.own j x b hx hox).1;exact absurd (R.own (.fr t) _ b ht h1') bE
  ·obtain⟨t,_,ht⟩:=(A.own j' x' b hx' hox').1;exact absurd (R.own (.fr t) _ b ht h1) bE
  ·exact R.own _ _ b h1 h1'
 ·rcases hown q b h with⟨j,x,rfl,hx,hox⟩|⟨lev',i',k,rfl,h1⟩
  ·obtain⟨t,_,ht⟩:=(A.own j x b hx hox).1;exact R.apart (.fr t) b lev i ht (hlive lev i h') e
  ·exact R.apart _ b lev i h1 (hlive lev i h') e
 ·by_cases h1:lev<L
  ·have:(G.push L s.lam.length).n lev=G.n lev:=by simp only[Gh.push];rw[bB bu]
   rw[this,R.nlt lev h1];simp only[gi,gK (show lev<μ.length by omega)]
  ·have:lev=L:=bu;subst this;subst hμ;simp[Gh.push,hll]
 ·have h1:=R.ngt (L+1) bu;have:(G.push L s.lam.length).n (L+1)=G.n (L+1):=by simp only[Gh.push];rw[bB bu]
  simp only[cu,d6,du];rw[this,h1]
 ·have:(G.push L s.lam.length).n lev=G.n lev:=by simp only[Gh.push];rw[bB bu]
  rw[this];exact R.ngt lev bu
def Rel.mergeP {s sr:S}{tm tmr:Array Value}{T:Nat->Prop}{O':Nat->Nat}{l':Lam}(R:Rel G L s μ tm w)
 (hT: ∀b,T b-> ∀t,¬b6 (s.fr t) (tm.getD t undef) b)
 (hlam:sr.lam=[]) (Rc:Rel ((G.push L s.lam.length).withO O') (L+1) sr (μ'++[l']) tmr w') (E:Ext (L+1) T (G.push L s.lam.length) w ((G.push L s.lam.length).withO O') w' (bM ((G.push L s.lam.length).withO O') w' sr (μ'++[l']) tmr)):
 Rel ((G.push L s.lam.length).withO O') L {s with lam:=l',pushed:=true} μ' tm w'/\
 (∀q b,bK ((G.push L s.lam.length).withO O') w' s.fr tm (μ'++[l']) q b->(b<w.heap.size/\ ¬T b/\bK G w s.fr tm (μ++[s.lam]) q b)\/((∃lev i k,q= .ob lev i k)/\bK ((G.push L s.lam.length).withO O') w' sr.fr tmr ((μ'++[l'])++[sr.lam]) q b))/\
 (∀lev i,b8 (bT (μ'++[l']) lev i)->b8 (bT ((μ'++[l'])++[sr.lam]) lev i)):=by
 have hμ':μ'.length=L:=by have:=Rc.lev;simp at this;omega
 have hnL: ∀i,i<G.n L->i<s.lam.length:=λi hi=>by have:=R.nL;split at this<;>omega
 have hle0:Le G w (G.push L s.lam.length) w:=qu hnL;have hle:=hle0.trans E.le;have hlen:s.lam.length=l'.length:=by have:=Rc.nlt L bu;simp only[Gh.withO,Gh.push,cQ,gi]at this;rw[jy bu]at this;simpa[hμ']using this
 have hfrT: ∀t b,b6 (s.fr t) (tm.getD t undef) b->b<w.heap.size/\ ¬T b:=λt b hb=>⟨R.touch_lt (.inl ⟨.fr t,hb⟩),λh=>hT b h t hb⟩;have hkeep: ∀b,b<w.heap.size-> ¬T b->w'.heap[b]? =w.heap[b]? /\((G.push L s.lam.length).withO O').O b=G.O b:=λb hb hn=>E.keep b hb hn;have eO: ∀lev i,b8 (bT (μ'++[l']) lev i)->bT ((μ'++[l'])++[sr.lam]) lev i=bT (μ'++[l']) lev i:=by
  intro lev i h;have:lev<(μ'++[l']).length:=by
   by_cases hh:lev<(μ'++[l']).length
   ·exact hh
   ·simp only[bT,ce]at h;rw[eB bu]at h;exact h.elim
  exact cV this
 have hlive: ∀lev i,b8 (bT (μ'++[l']) lev i)->b8 (bT ((μ'++[l'])++[sr.lam]) lev i):=λlev i h=>by rw[eO lev i h];exact h
 have hown: ∀q b,bK ((G.push L s.lam.length).withO O') w' s.fr tm (μ'++[l']) q b->(b<w.heap.size/\ ¬T b/\bK G w s.fr tm (μ++[s.lam]) q b)\/((∃lev i k,q= .ob lev i k)/\bK ((G.push L s.lam.length).withO O') w' sr.fr tmr ((μ'++[l'])++[sr.lam]) q b):=by
  intro q b h;cases q with|fr t=>exact .inl ⟨(hfrT t b h).1,(hfrT t b h).2,h⟩|ob lev i k=>exact .inr ⟨⟨_,_,_,rfl⟩,jR (fr':=s.fr) (tm':=tm) (eO lev i (jQ h)).symm rfl rfl h⟩
 have hTr:=E.grow;refine⟨⟨hμ',λt=> ?_,λi=> ?_,λlev i hlt=> ?_,λlev i lev' i' h h' e=>Rc.inj lev i lev' i' (hlive lev i h) (hlive lev' i' h') e,λq q' b h h'=> ?_,λq b lev i h h' e=> ?_,λlev hlt=> ?_,?_,λlev hlt=> ?_⟩,hown,hlive⟩
 ·exact ga hle (by simp only;omega) (λ_ _=>⟨rfl,rfl⟩) _ _ (λb hb=>hkeep b (hfrT t b hb).1 (hfrT t b hb).2) (R.fr t)
 ·have h1:=Rc.mu L i bu;have e1:ce (μ'++[l']) L i=bU l' i:=by rw[<-hμ'];exact db
  rw[e1]at h1;revert h1;generalize bU l' i=q;intro h1;cases q with
  |dead=>trivial|cells cs=>simp only[ObR]at h1 |-;obtain⟨cur,e,fz,a1,a2,a3,a4,a5⟩:=h1;exact⟨cur,e,fz,a1,a2,a3,a4,λj x hx=>u4 x _ (a5 j x hx)⟩
  |arr kk cs=>simp only[ObR]at h1 |-;obtain⟨hk,cur,e,fz,a1,a2,a3,a4,a5⟩:=h1;exact⟨hk,cur,e,fz,a1,a2,a3,a4,λj x hx=>de (ug _ _ _) x _ (a5 j x hx)⟩
  |map ks vs=>simp only[ObR]at h1 |-;obtain⟨es,clk,a1,a2,a3⟩:=h1;exact⟨es,clk,a1,a2,rF (ug _ _ _) a3⟩
 ·have h1:=Rc.mu lev i bu;have e1:ce (μ'++[l']) lev i=ce μ' lev i:=cV bu;rw[e1]at h1;exact h1
 ·rcases hown q b h with⟨h1,h2,h3⟩|⟨⟨_,_,_,rfl⟩,h3⟩<;>rcases hown q' b h' with⟨h1',h2',h3'⟩|⟨⟨_,_,_,rfl⟩,h3'⟩
  ·exact R.own q q' b h3 h3'
  ·exfalso;rcases hTr b (.inl ⟨_,h3'⟩)with hh|hh
   ·exact h2 hh
   ·omega
  ·exfalso;rcases hTr b (.inl ⟨_,h3⟩)with hh|hh
   ·exact h2' hh
   ·omega
  ·exact Rc.own _ _ b h3 h3'
 ·have h3':=hlive lev i h';rcases hown q b h with⟨h1,h2,h3⟩|⟨⟨_,_,_,rfl⟩,h3⟩
  ·rcases hTr b (.inr ⟨lev,i,h3',e⟩)with hh|hh
   ·exact h2 hh
   ·omega
  ·exact Rc.apart _ b lev i h3 h3' e
 ·have h1:=Rc.nlt lev bu;rw[h1];simp only[gi,gK (show lev<μ'.length by omega)]
 ·simp only[cQ];simp only[Gh.withO,Gh.push,cQ];exact hlen
 ·simp only[Gh.withO,Gh.push];rw[bB bu];exact R.ngt lev hlt
end
section
variable {P:Program}{W0:World}{ρ:Rho}{α:Type}{L:Nat}{G:Gh}{w:World}{s:S}{μ:Mu}{a:Act}{o:Oper}{h:OpHint}{k:LV->S->Mu->Option α}{p:CV->S->Mu->Option α}{r:α}{K:Act->World->Prop}{Q:Exit->Act->World->Prop}
def zo {q:Mu×Lam}(h:eE μ=some q):μ=q.1++[q.2]:=by unfold eE at h;split at h<;>simp only[bP,reduceCtorEq]at h;rename_i l r e;subst h;simp_all
def ArgsR.strip {ts:List Nat}{args:List LV}{cargs:Array Value}(A:ArgsR G w L s a.tmps ts args cargs):True:=trivial
def abP {f:FuncId}{args args':List LV}{l:Lam}{cargs:Array Value}(R:Rel G L s μ a.tmps w)(hd: ∀d,o.dst=some d->d<a.tmps.size)(hk:KOK L G w s μ a o.dst k r K)(hpk:POK L G w s μ a p r Q)
 (hrho: ∀f args μ out,ρ.call f args μ=some out->fT P W0 f args μ out) (hkn:Kn W0 w (bM G w s μ a.tmps)) (A:ArgsR G w L s a.tmps h.take args cargs) (ha:k7 μ.length args=some args') (hlm:iv μ.length s.lam=some l)
 (hrun:(∃fn c,P.funcs[f]? =some fn/\fn.body=some c/\(fn.name == "runtime.NumGoroutine")=false)->(execOp a.eval o).run P w= .ok (.enter f cargs) w)
 (hop : callK (ρ.call f args' (μ ++ [l])) (λv μ => opt (eE μ) λq => fq P h.own o.type v λv => k v { bz h.take s with lam := q.2, pushed := true } q.1)
  (λv μ=>opt (eE μ) λq=>p v {bz h.take s with lam:=q.2,pushed:=true} q.1)=some r):o.wp P a w K Q:=by
 obtain⟨out,hout,hop⟩:=bA.1 hop;obtain⟨hfn,hM⟩:=hrho _ _ _ _ hout;have hμ:=R.lev;rw[hμ]at ha hlm;obtain⟨R1,E1,hO⟩:=fI R h.take;have hl:=cq h.take s;obtain⟨Re,hown,hlive⟩:=R.enterP A ha hlm;have hT: ∀b,bM (G.push L s.lam.length) w (cu args') (μ++[l]) cargs b-> ∀t,¬b6 ((bz h.take s).fr t) (a.tmps.getD t undef) b:=by
  rintro b (⟨q,hb⟩|⟨lev,i,hb,rfl⟩) t ht
  ·rcases hown q b hb with⟨j,x,rfl,hx,ho⟩|⟨lev,i,k,rfl,ho⟩
   ·obtain⟨⟨u,hu,hou⟩,_⟩:=A.own j x b hx ho;obtain⟨a1,a2⟩:=hO (.fr t) b ht;exact a1 u hu (R.own _ (.fr u) b a2 hou)
   ·have:=R.own _ _ b (hO (.fr t) b ht).2 ho;cases this
  ·exact R.apart _ _ lev i (hO (.fr t) _ ht).2 (hlive lev i hb) rfl
 have hT0: ∀b,bM (G.push L s.lam.length) w (cu args') (μ++[l]) cargs b->bM G w s μ a.tmps b:=by
  rintro b (⟨q,hb⟩|⟨lev,i,hb,rfl⟩)
  ·rcases hown q b hb with⟨j,x,rfl,hx,ho⟩|⟨lev,i,k,rfl,ho⟩
   ·obtain⟨⟨u,hu,hou⟩,_⟩:=A.own j x b hx ho;exact .inl ⟨.fr u,hou⟩
   ·exact .inl ⟨_,ho⟩
  ·exact .inr ⟨lev,i,hlive lev i hb,rfl⟩
 have hcall:=hM (G.push L s.lam.length) w cargs (by rw[A.size,(lw ha).1]) (by rw[ef,hμ];exact Re) (hkn.mono hT0);rw[show (μ++[l]).length=L+1 by simp[hμ]]at hcall;unfold Oper.wp;rw[hrun hfn,Oper.upon_enter];refine hcall.mono λe w' hR=> ?_;have hnL: ∀i,i<G.n L->i<s.lam.length:=λi hi=>by have:=R.nL;split at this<;>omega
 have merge: ∀{O':Nat->Nat} {sr:S} {μ':Mu} {l':Lam} {tmr:Array Value},sr.lam=[]->Rel ((G.push L s.lam.length).withO O') (L+1) sr (μ'++[l']) tmr w'->
  Ext (L+1) (bM (G.push L s.lam.length) w (cu args') (μ++[l]) cargs) (G.push L s.lam.length) w ((G.push L s.lam.length).withO O') w' (bM ((G.push L s.lam.length).withO O') w' sr (μ'++[l']) tmr)->
  Rel ((G.push L s.lam.length).withO O') L {bz h.take s with lam:=l',pushed:=true} μ' a.tmps w'/\Ext L (bM G w s μ a.tmps) G w ((G.push L s.lam.length).withO O') w' (bM ((G.push L s.lam.length).withO O') w' {bz h.take s with lam:=l',pushed:=true} μ' a.tmps)/\
  (∀b,bM ((G.push L s.lam.length).withO O') w' sr (μ'++[l']) tmr b->(bM G w s μ a.tmps b\/w.heap.size<=b))/\
  (∀ t b, bK ((G.push L s.lam.length).withO O') w' sr.fr tmr ((μ' ++ [l']) ++ [sr.lam]) (.fr t) b -> (∀ q, ¬ bK ((G.push L s.lam.length).withO O') w' (bz h.take s).fr a.tmps (μ' ++ [l']) q b) /\
   ∀lev i,b8 (bT (μ'++[l']) lev i)->((G.push L s.lam.length).withO O').β lev i≠b):=by
  intro O' sr μ' l' tmr hlam Rc E;have hsl:(bz h.take s).lam.length=s.lam.length:=by rw[hl.1]
  obtain⟨R2,h2,h3⟩:=R1.mergeP (O':=O') hT hlam (by rw[hsl];exact Rc) (by rw[hsl];exact E);rw[hsl]at R2 h2;have hin: ∀b,bM ((G.push L s.lam.length).withO O') w' sr (μ'++[l']) tmr b->(bM G w s μ a.tmps b\/w.heap.size<=b):=λb hb=>(E.grow b hb).imp (hT0 b) id;refine⟨R2,⟨(qu hnL).trans E.le,E.os,E.tape,E.output,E.size,λb hb hn=>E.keep b hb λhh=>hn (hT0 b hh),λb hb=> ?_,λlv hlv=> ?_⟩,hin,λt b hb=>⟨λq hq=> ?_,λlev i hli e=>Rc.apart _ b lev i hb (h3 lev i hli) e⟩⟩
  ·rcases hb with⟨q,hb⟩|⟨lev,i,hb,rfl⟩
   ·rcases h2 q b hb with⟨_,_,h4⟩|⟨_,h4⟩
    ·exact .inl (.inl ⟨q,(hO q b h4).2⟩)
    ·exact hin b (.inl ⟨q,h4⟩)
   ·exact hin _ (.inr ⟨lev,i,h3 lev i hb,rfl⟩)
  ·refine⟨λ_=>⟨rfl,rfl⟩,?_⟩;simp only[Gh.withO,Gh.push];rw[bB bu]
  ·rcases h2 q b hq with⟨h4,h5,_⟩|⟨⟨_,_,_,rfl⟩,h4⟩
   ·rcases E.grow b (.inl ⟨_,hb⟩)with hh|hh
    ·exact h5 hh
    ·omega
   ·have:=Rc.own _ _ b hb h4;cases this
 cases out with
 |ret v μx=>
  cases e with
  |returned cv=>
   simp only[km]at hR;obtain⟨O',Rc,E⟩:=hR;obtain⟨q,hq,hop2⟩:=bA.1 hop;clear hop;have hq':=zo hq;subst hq';obtain⟨R2,E2,hin,hfr⟩:=merge rfl Rc E;obtain⟨y,hy,hyr⟩:=j4 hop2;have hv:LVR ((G.push L s.lam.length).withO O') w' (L+1) 0 v cv:=by have:=Rc.fr 0;simp only[fh,ft,ia]at this;simpa[cu]using this
   obtain⟨hy1,hy2⟩:=hyr ((G.push L s.lam.length).withO O') w' L q.2.length cv (Er v cv hv)
   obtain ⟨R3, E3⟩ := eQ (dst := o.dst) (v := y) (cv := cv) R2 E2 hy1 (λb hb => by
    have hat:bK ((G.push L s.lam.length).withO O') w' (cu [v]).fr #[cv] ((q.1++[q.2])++[(cu [v]).lam]) (.fr 0) b:=by have:=hy2 b hb;simpa[bK,fh]using this
    exact⟨(hfr 0 b hat).1,(hfr 0 b hat).2,hin b (.inl ⟨_,hat⟩)⟩) hd
   exact hk y _ _ cv w' _ hy R3 E3
  |panicked ch=>simp[km]at hR|outgrown=>simp[km]at hR
 |panic v μx=>
  cases e with
  |returned cv=>simp[km]at hR|panicked ch=>simp only[km]at hR;obtain⟨O',pv,rfl,hv,Rc,E⟩:=hR;obtain⟨q,hq,hop2⟩:=bA.1 hop;clear hop;have hq':=zo hq;subst hq';obtain⟨R2,E2,_,_⟩:=merge rfl Rc E;exact hpk v _ _ pv w' _ hop2 R2 hv E2
  |outgrown=>simp[km]at hR
end
open Go.MapKept
section
variable {G:Gh}{w:World}{L:Nat}{P:Program}
def PP {d:TypeDesc}{v:Value}(h:M0 d v=true):IsKey d v:=by cases d<;>cases v<;>simp_all [M0,IsKey]
def rq {d:TypeDesc}: ∀{ks:List Value},p3 d ks=true-> ∀x∈ks,IsKey d x
 |[],_,x,hx=>by simp at hx|k::r,h,x,hx=>by
  simp only[p3]at h;split at h<;>try(cases h;done)
  rename_i hk;rcases ed.1 hx with rfl|hx
  ·exact PP hk
  ·exact rq h x hx
def zT {d:TypeDesc}{a b:Value}(ha:IsKey d a)(hb:IsKey d b):Instr.sameNow d a b=some (CZ a b):=by obtain⟨r,h1,h2⟩:=sameNow_of_keys ha hb;rw[h1];congr 1;rw[Bool.eq_iff_iff,h2];cases d<;>cases a<;>cases b<;>simp_all [IsKey,CZ];rename_i x y;cases x;cases y;simp
def MQ {d:TypeDesc}{k:Value}(hk:IsKey d k): ∀{es:List MapEntry} {ks:List Value} {vs:List CV} {i:Nat},es.map MapEntry.key=ks->VRL G w vs (es.map MapEntry.val)->(∀x∈ks,IsKey d x)->
 (lq ks vs k=none->Instr.findNow d k es i=some none)/\(∀c,lq ks vs k=some c-> ∃j v,Instr.findNow d k es i=some (some (j,v))/\VR G w c v)
 |[],ks,vs,i,he,hv,ho=>by subst he;exact⟨λ_=>rfl,λc hc=>by simp[lq]at hc⟩|e::es,ks,vs,i,he,hv,ho=>by
  subst he;cases vs with
  |nil=>simp[VRL]at hv|cons c0 vs=>simp only[dr,VRL,q7]at hv;obtain⟨v,r,⟨rfl,rfl⟩,h1,h2⟩:=hv;have hs:=zT hk (ho e.key bE);obtain⟨i1,i2⟩:=MQ hk (i:=i+1) rfl h2 (λx hx=>ho x (by simp only[dr,ed];exact .inr hx));simp only[lq,dr,Instr.findNow,hs];grind
def TK {d:TypeDesc}{k:Value}(hk:IsKey d k): ∀{es:List MapEntry} {i:Nat},(∀x∈es.map MapEntry.key,IsKey d x)->
 (pZ (es.map MapEntry.key) k=none->Instr.findNow d k es i=some none)/\(∀n,pZ (es.map MapEntry.key) k=some n-> ∃e,es[n]? =some e/\e.key=k/\Instr.findNow d k es i=some (some (i+n,e.val)))
 |[],i,ho=>⟨λ_=>rfl,λn hn=>by simp[pZ]at hn⟩|e::es,i,ho=>by
  have hs:=zT hk (ho e.key bE);obtain⟨i1,i2⟩:=TK hk (es:=es) (i:=i+1) (λx hx=>ho x (by simp only[dr,ed];exact .inr hx));simp only[pZ,dr,Instr.findNow,hs];cases hke:CZ k e.key with
  |true=>refine⟨λh=>by simp at h,λn hn=> ?_⟩;simp only[bP]at hn;subst hn;refine⟨e,rfl,?_,rfl⟩;have:=(sameNow_of_keys hk (ho e.key bE));simp_all|false=>
   refine⟨λh=>i1 ?_,λn hn=> ?_⟩
   ·cases hki:pZ (es.map MapEntry.key) k with|none=>rfl|some n=>rw[hki]at h;simp[opt]at h
   ·obtain⟨m,h1,h2⟩:=bA.1 hn;grind
def Uh {t kt et:TypeId}{d:TypeDesc}{r:Nat}{es:Array MapEntry}{clk:Nat}{k v:Value}{ks:List Value}{vs:List CV}{c:CV}(hm:P.underlying t=some (.map kt et))(hd:P.underlying kt=some d)
 (hb:w.heap[r]? =some (.map es clk)) (hk:IsKey d k) (hM:Ad G w ks vs es) (ho: ∀x∈ks,IsKey d x):
 ∃es' clk',(Instr.mapUpdate t (.map (some r)) k v).run P w= .ok () {w with heap:=w.heap.setIfInBounds r (.map es' clk')}/\es'.toList.map MapEntry.key=qI ks k/\
  ∀G' w',VRL G' w' vs (es.toList.map MapEntry.val)->VR G' w' c v->VRL G' w' (qJ ks vs k c) (es'.toList.map MapEntry.val):=by
 obtain⟨hk1,hv1⟩:=hM;subst hk1;obtain⟨i1,i2⟩:=TK hk (es:=es.toList) (i:=0) ho;cases hi:pZ (es.toList.map MapEntry.key) k with
 |none=>
  have hf:=i1 hi;refine⟨es.push {key:=k,val:=v,born:=clk},clk+1,?_,?_,λG' w' h1 h2=> ?_⟩
  ·simp[Instr.mapUpdate,df hm,Dj hb,xQ hd hk,tX hd hf,MapKept.run_setObj_map _ hb,Result.andThen]
  ·simp[qI,hi]
  ·simp only[qJ,hi,Array.toList_push,uZ,dr,iA];revert h1;generalize es.toList.map MapEntry.val=l;clear hv1
   induction vs generalizing l with
   |nil=>intro h1;simp only[VRL]at h1;subst h1;simpa[VRL]using h2|cons x vs ih=>intro h1;simp only[VRL]at h1;obtain⟨u,q,rfl,a1,a2⟩:=h1;simp only[eH,VRL];grind
 |some n=>
  obtain⟨e,he,hek,hf⟩:=i2 n hi;rw[fZ]at hf;have he':es[n]? =some e:=by simpa using he
  refine⟨es.modify n λe=>{e with key:=k,val:=v},clk,?_,?_,λG' w' h1 h2=> ?_⟩
  ·have hks:(Instr.keyThatStays (((es[n]?).map (·.key)).getD k) k).run P w= .ok k w:=by rw[he'];simp only[gN,ia,hek];exact run_keyThatStays hk
   simp[Instr.mapUpdate,df hm,Dj hb,xQ hd hk,tX hd hf,hks,MapKept.run_setObj_map _ hb,Result.andThen]
  ·simp only[qI,hi];exact modify_keys n _ λe2 h=>by simp_all
  ·simp only[qJ,hi];have hl:(es.modify n λe=>{e with key:=k,val:=v}).toList.map MapEntry.val=(es.toList.map MapEntry.val).set n v:=by apply List.ext_getElem?;grind
   rw[hl];revert h1;generalize es.toList.map MapEntry.val=l;clear hl hv1 hf he he' i1 i2 hi
   induction vs generalizing l n with
   |nil=>intro h1;simp only[VRL]at h1;subst h1;simp[VRL]|cons x vs ih=>
    intro h1;simp only[VRL]at h1;obtain⟨u,q,rfl,a1,a2⟩:=h1;cases n with|zero=>simp only[List.set_cons_zero,VRL];exact⟨v,q,rfl,h2,a2⟩|succ n=>simp only[List.set_cons_succ,VRL];exact⟨u,_,rfl,a1,ih n q a2⟩
def Rel.setMap {s s1:S}{μ μ1:Mu}{tm:Array Value}(R:Rel G L s μ tm w){lev i:Nat}{ks ks':List Value}{vs vs':List CV}(hob:bT (μ++[s.lam]) lev i= .map ks vs){es es':Array MapEntry}{clk clk':Nat}
 (hb:w.heap[G.β lev i]? =some (.map es clk)) (hfr:s1.fr=s.fr) (hp:s1.pushed=s.pushed) (hlen:s1.lam.length=s.lam.length) (hμlen:μ1.length=μ.length) (hH:μ1++[s1.lam]=cx (μ++[s.lam]) lev i (.map ks' vs'))
 (hnew: ∀w',Le G w G w'->(lev=L->Ad G w' ks' vs' es')/\(lev<L->Ad (G.below lev) w' ks' vs' es')):
 let w1:World:={w with heap:=w.heap.setIfInBounds (G.β lev i) (.map es' clk')}
 Rel G L s1 μ1 tm w1/\Ext L (bM G w s μ tm) G w G w1 (bM G w1 s1 μ1 tm):=by
 intro w1;have hl:b8 (bT (μ++[s.lam]) lev i):=by rw[hob];trivial
 have hO:G.O (G.β lev i)=0:=by
  rcases fF R.lev hl with⟨h1,h2⟩|⟨rfl,h1,h2⟩
  ·have:=R.mu lev i h1;rw[<-h2,hob]at this;simp only[ObR]at this;obtain⟨_,_,_,h,_⟩:=this;exact h
  ·have:=R.lam i;rw[<-h2,hob]at this;simp only[ObR]at this;omega
 have hw1:w1.heap[G.β lev i]? =some (.map es' clk'):=(heap_set hb).1;have hblk: ∀b,b≠G.β lev i->w1.heap[b]? =w.heap[b]? :=λb h=>(heap_set hb).2 b h;have hsz:w1.heap.size=w.heap.size:=by simp[w1]
 have hle:Le G w G w1:=by
  refine⟨λb es2 clk2 h hb2=> ?_,λ_ _ h=>⟨h,rfl,rfl⟩,λb off v h hc=> ?_,λb cur2 e2 fz2 h=> ?_⟩
  ·grind
  ·have hne:b≠G.β lev i:=λe=>by subst e;omega
   refine⟨h,?_⟩;rw[<-hc];simp only[World.cell?];simp_all
  grind
 have hset:=zd (o:=Ob.map ks' vs') hl;have hAt: ∀l j,bT (μ1++[s1.lam]) l j=if l=lev/\j=i then .map ks' vs' else bT (μ++[s.lam]) l j:=λl j=>by rw[bT,hH];exact hset l j
 have hlive: ∀l j,b8 (bT (μ1++[s1.lam]) l j)->b8 (bT (μ++[s.lam]) l j):=by grind
 have hne: ∀l j,b8 (bT (μ++[s.lam]) l j)-> ¬(l=lev/\j=i)->G.β l j≠G.β lev i:=λl j h hn e=>hn (R.inj l j lev i h hl e);have hownAt: ∀l b,bK G w1 s1.fr tm (μ1++[s1.lam]) l b->bK G w s.fr tm (μ++[s.lam]) l b:=by
  intro l b h;cases l with
  |fr t=>rw[hfr]at h;exact h|ob l j k=>
   simp only[bK]at h;split at h<;>try(exact h.elim)
   rename_i cs hcs;split at h<;>try(exact h.elim)
   rename_i x hx;obtain⟨cur2,e2,fz2,hb2,ho⟩:=h;rw[hAt]at hcs;by_cases e:l=lev/\j=i
   ·simp_all
   ·rw[bB e]at hcs;have hl2:b8 (bT (μ++[s.lam]) l j):=by rw[hcs];trivial
    rw[hblk _ (hne l j hl2 e)]at hb2;simp only[bK,hcs,hx];simp_all
 have hownBlk: ∀l b,bK G w s.fr tm (μ++[s.lam]) l b->w1.heap[b]? =w.heap[b]? /\G.O b=G.O b:=λl b h=>⟨hblk b λe=>R.apart l b lev i h hl e.symm,rfl⟩;have hlvl:lev<=L:=by rcases fF R.lev hl with⟨h1,_⟩|⟨h1,_⟩<;>omega
 refine ⟨⟨by rw [hμlen]; exact R.lev, λt => ?_, λj => ?_, λl j hlt => ?_, λl j l' j' h h' e' => R.inj l j l' j' (hlive l j h) (hlive l' j' h') e', λl l' b h h' => R.own l l' b (hownAt l b h) (hownAt l' b h'), λl b l' j h h' e' => R.apart l b l' j (hownAt l b h) (hlive l' j h') e', λl hlt => ?_, ?_, R.ngt⟩,
  ⟨hle,rfl,rfl,rfl,by rw[hsz];exact ct _,λb hb' hn=>⟨hblk b λe=>hn (.inr ⟨lev,i,hl,e.symm⟩),rfl⟩,λb hb'=> .inl ?_,λ_ _=>⟨λ_=>⟨rfl,rfl⟩,rfl⟩⟩⟩
 ·rw[hfr,hlen];exact ga hle (ct _) (λ_ _=>⟨rfl,rfl⟩) _ _ (λb hb=>hownBlk (.fr t) b hb) (R.fr t)
 ·rw[hlen];have e1:bT (μ1++[s1.lam]) L j=bU s1.lam j:=by rw[<-R.lev,<-hμlen];exact db
  have e2:bT (μ++[s.lam]) L j=bU s.lam j:=by rw[<-R.lev];exact db
  rw[<-e1,hAt];split
  ·rename_i e;obtain⟨rfl,rfl⟩:=e;simp only[ObR];exact⟨es',clk',hw1,hO,(hnew w1 hle).1 rfl⟩
  ·rename_i e;rw[e2];refine eS hle (ct _) (λ_ _=>⟨rfl,rfl⟩) (λh=>⟨hblk _ (hne L j (by rw[e2];exact h) e),rfl⟩) (λcs k x cur e fz ho hx hb b' hb'=>hownBlk (.ob L j k) b' ?_) (R.lam j);simp only[bK,e2,ho,hx];exact⟨cur,e,fz,hb,hb'⟩
 ·have e1:bT (μ1++[s1.lam]) l j=ce μ1 l j:=cV (by rw[hμlen,R.lev];exact hlt);have e2:bT (μ++[s.lam]) l j=ce μ l j:=cV (by rw[R.lev];exact hlt);rw[<-e1,hAt];split
  ·rename_i e;obtain⟨rfl,rfl⟩:=e;simp only[ObR];exact⟨es',clk',hw1,hO,(hnew w1 hle).2 hlt⟩
  ·rename_i e;rw[e2];refine eS (hle.below l) (ct _) (λ_ h=>by omega) (λh=>⟨hblk _ (hne l j (by rw[e2];exact h) e),rfl⟩) (λcs k x cur e fz ho hx hb b' hb'=>hownBlk (.ob l j k) b' ?_) (R.mu l j hlt);simp only[bK,e2,ho,hx];exact⟨cur,e,fz,hb,hb'⟩
 ·have h1:(μ1.getD l []).length=(μ.getD l []).length:=by
   have:=(lG (H:=μ++[s.lam]) (lev:=lev) (i:=i) (o:=Ob.map ks' vs')).2 l;rw[<-hH]at this;have a1:l<μ1.length:=by rw[hμlen,R.lev];exact hlt
   have a2:l<μ.length:=by rw[R.lev];exact hlt
   simp only[gi,gK a1,gK a2]at this |-;exact this
  rw[h1];exact R.nlt l hlt
 ·rw[hp,hlen];exact R.nL
 ·rcases hb' with⟨l,hb'⟩|⟨l,j,h,rfl⟩
  ·exact .inl ⟨l,hownAt l b hb'⟩
  ·exact .inr ⟨l,j,hlive l j h,rfl⟩
end
section
variable {P:Program}{ρ:Rho}{α:Type}{L:Nat}{G:Gh}{w:World}{s:S}{μ:Mu}{a:Act}{o:Oper}{h:OpHint}{k:LV->S->Mu->Option α}{p:CV->S->Mu->Option α}{r:α}{K:Act->World->Prop}{Q:Exit->Act->World->Prop}
def HG {t:TypeId}{z:CV}(hz:HF P t=some z): ∃zv,(zeroValue t).run P w= .ok zv w/\VR G w z zv:=by
 unfold HF at hz;split at hz<;>try(simp at hz;done)
 rename_i i hi;split at hz<;>try(simp at hz;done)
 rename_i zv hzv;refine⟨zv,by simp[zeroValue,typeInfo,hi,hzv],?_⟩;split at hz
 ·rename_i cs;simp only[bP]at hz;subst hz;simp only[VR];refine⟨cs,rfl,?_⟩;generalize cs.toList=l
  induction l with|nil=>simp[VRL]|cons x l ih=>simp only[dr,VRL];exact⟨x,l,rfl,by simp[VR],ih⟩
 ·simp only[bP]at hz;subst hz;simp[VR]
def De {nl:Nat}{c:CV}{v:Value}{b:Bool}(h:VR G w c v):LVR G w L nl (.ltup [.cv c,.cv (.v (.bool b))]) (.tuple #[v,.bool b]):=by simp only[LVR];refine⟨_,rfl,?_⟩;simp only[en];exact⟨v,[.bool b],rfl,bE,by simpa[LVR]using h,.bool b,[],rfl,bE,by simp[LVR,VR],rfl⟩
def uP (R:Rel G L s μ a.tmps w)(hd: ∀d,o.dst=some d->d<a.tmps.size)(hk:KOK L G w s μ a o.dst k r K){ts:List Nat}{v:LV}(hno: ∀cv b,¬b6 v cv b)
 (h:k v (bz ts s) μ=some r) (hrun: ∃cv,(execOp a.eval o).run P w= .ok (.value cv) w/\LVR G w L s.lam.length v cv):o.wp P a w K Q:=by
 obtain⟨cv,h1,h2⟩:=hrun;exact gy R hd hk h h1 h2 (λb hb=>absurd hb (hno cv b))
def L6 {x:Operand}{xt t:TypeId}{ok:Bool}(ho:o.op= .typeAssert x xt t ok)(R:Rel G L s μ a.tmps w)(hd: ∀d,o.dst=some d->d<a.tmps.size)(hk:KOK L G w s μ a o.dst k r K)
 (hop:(nt P (evA h s.fr x) t ok λv=>k v (bz h.take s) μ)=some r):o.wp P a w K Q:=by
 unfold nt at hop;split at hop<;>try(simp at hop;done)
 rename_i d hni hu;split at hop<;>try(simp at hop;done)
 obtain⟨z,hz,hop2⟩:=bA.1 hop;clear hop;obtain⟨zv,hzr,hzv⟩:=HG (G:=G) (w:=w) hz;have hno: ∀c b (cv:Value) bl,¬b6 (.ltup [.cv c,.cv (.v (.bool b))]) cv bl:=λ_ _ _ _ h=>by simp[b6]at h
 have hmiss : (Instr.typeAssert (a.eval x) xt t true).run P w = (match a.eval x with
  | .nilIface=> .ok (.tuple #[zv,.bool false]) w| .iface u v=>if u=t then .ok (.tuple #[v,.bool true]) w else .ok (.tuple #[zv,.bool false]) w
  |_=>(Instr.typeAssert (a.eval x) xt t true).run P w):=by
  unfold Instr.typeAssert;cases hx:a.eval x<;>try rfl
  ·rename_i u v;simp only[dk,df hu,dq];cases d<;>first
    |(exact absurd hu (hni _))|(by_cases hut:u=t<;>simp[hut,hzr])
  ·simp only[dk,df hu,dq];cases d<;>first
    |(exact absurd hu (hni _))|simp[hzr]
 split at hop2
 ·rename_i u c he;have hv:=eV R he;simp only[VR]at hv;obtain⟨v,e,hc⟩:=hv;rw[e]at hmiss;split at hop2
  ·rename_i hut;have:=fb hut;subst this;refine uP R hd hk (hno _ _) hop2 ⟨.tuple #[v,.bool true],?_,De hc⟩;simp only[execOp,ho,e];simp_all
  ·rename_i hut;refine uP R hd hk (hno _ _) hop2 ⟨.tuple #[zv,.bool false],?_,De hzv⟩;simp only[execOp,ho,e];refine fX ?_;rw[hmiss];have: ¬u=t:=λe=>by subst e;simp[q9]at hut
   simp[this]
 ·rename_i he;have hv:=eV R he;simp only[VR]at hv;rw[hv]at hmiss;refine uP R hd hk (hno _ _) hop2 ⟨.tuple #[zv,.bool false],?_,De hzv⟩;simp only[execOp,ho,hv];simp_all
 simp_all
def Yi {t:TypeId}(ho:o.op= .makeMap t none)(R:Rel G L s μ a.tmps w)(hd: ∀d,o.dst=some d->d<a.tmps.size)(hk:KOK L G w s μ a o.dst k r K)
 (hop:k (.mloc (bz h.take s).lam.length) {bz h.take s with lam:=(bz h.take s).lam++[.map [] []]} μ=some r):o.wp P a w K Q:=by
 obtain⟨R1,E,_⟩:=fI R h.take;obtain⟨R2,hle,hT,hv⟩:=R1.newMap;have E1:Ext L (bM G w s μ a.tmps) G w (G.setL L (bz h.take s).lam.length w.heap.size 0 (bz h.take s).pushed) (w.alloc (.map #[] 0)) (bM (G.setL L (bz h.take s).lam.length w.heap.size 0 (bz h.take s).pushed) (w.alloc (.map #[] 0)) {bz h.take s with lam:=(bz h.take s).lam++[.map [] []]} μ a.tmps):=by
  refine⟨hle,rfl,rfl,rfl,bE,λb hb hn=> ?_,λb hb=> ?_,λl hl=>O5 l hl⟩
  ·refine⟨jz w _ hb,?_⟩;have:b≠w.heap.size:=bu;simp[Gh.setL,this]
  ·rcases hT b hb with h1|rfl
   ·exact E.grow b h1
   omega
 obtain⟨R3,E3⟩:=eQ (dst:=o.dst) (v:= .mloc (bz h.take s).lam.length) (cv:= .map (some w.heap.size)) R2 E1 hv (λb hb=>by simp[b6]at hb) hd;refine eU ?_ (hk _ _ μ _ _ _ hop R3 E3);simp only[execOp,ho];rfl
def GI {t:TypeId}{q:TypeDesc×TypeId}(h:KT P t=some q): ∃kt,P.underlying t=some (.map kt q.2)/\P.underlying kt=some q.1:=by
 unfold KT at h;split at h<;>try(simp at h;done)
 rename_i kt e hu;obtain⟨d,hd,h⟩:=bA.1 h;grind
def JO {d:TypeDesc}{x:LV}{kv:Value}{nl:Nat}{v:Value}(h:Vz d x=some kv)(hv:LVR G w L nl x v):v=kv/\IsKey d kv:=by
 unfold Vz at h;split at h<;>try(simp at h;done)
 ·obtain⟨n,h1,h2⟩:=bA.1 h;simp only[bP]at h2;subst h2;rw[mU h1]at hv;simp only[LVR,VR]at hv;exact⟨hv,rfl⟩
 ·obtain⟨n,h1,h2⟩:=bA.1 h;simp only[bP]at h2;subst h2;rw[kH h1]at hv;simp only[LVR,VR]at hv;exact⟨hv,trivial⟩
 ·obtain⟨n,h1,h2⟩:=bA.1 h;simp only[bP]at h2;subst h2;rw[jF h1]at hv;simp only[LVR,VR]at hv;exact⟨hv,trivial⟩
def L5 {t:TypeId}{m x y:Operand}(ho:o.op= .insert t m x y\/o.op= .mapUpdate t m x y)(R:Rel G L s μ a.tmps w)(hd: ∀d,o.dst=some d->d<a.tmps.size)(hk:KOK L G w s μ a o.dst k r K)
 (hop:mj P t (evA h s.fr m) (evA h s.fr x) (evA h s.fr y) (bz h.take s) μ k=some r):o.wp P a w K Q:=by
 obtain⟨R1,E1,hO⟩:=fI R h.take;have hl:=cq h.take s;have hexec: ∀{w':World},(Instr.mapUpdate t (a.eval m) (a.eval x) (a.eval y)).run P w= .ok () w'->(execOp a.eval o).run P w= .ok .skip w':=by intro w' hw;rcases ho with ho|ho<;>(simp only[execOp,ho];exact WS hw)
 unfold mj at hop;obtain⟨q,hq,hop⟩:=bA.1 hop;obtain⟨kt,hu,hkd⟩:=GI hq;obtain⟨kv,hkv,hop⟩:=bA.1 hop;obtain⟨hkx,hkk⟩:=JO hkv (cG R h x).1;obtain⟨c,hc,hop⟩:=bA.1 hop;have hcv:=ji hc (cG R h y).1;split at hop
 ·rename_i i he;have hm:=(cG R h m).1;rw[he]at hm;simp only[LVR]at hm;split at hop<;>try(simp at hop;done)
  rename_i ks vs hob;obtain⟨hg,hop⟩:=bR.1 hop;rw[hl.1]at hob;have hobr:=R.lam i;rw[hob]at hobr;simp only[ObR]at hobr;obtain⟨es,clk,hb,hO0,hM⟩:=hobr;obtain⟨es',clk',hrun,hkeys,hvals⟩:=Uh (P:=P) (c:=c) (v:=a.eval y) hu hkd hb hkk hM (rq hg);have hob2:bT (μ++[(bz h.take s).lam]) L i= .map ks vs:=by rw[hl.1,<-R.lev];exact db.trans hob
  obtain⟨R2,E2⟩:=R1.setMap (s1:={bz h.take s with lam:=(bz h.take s).lam.set i (.map (qI ks kv) (qJ ks vs kv c))}) (μ1:=μ) hob2 hb rfl rfl bE rfl (by rw[<-R.lev];exact m0.symm) (es':=es') (clk':=clk')
   (λw' hle=>⟨λ_=>⟨hkeys,hvals G w' (lM hle vs _ hM.2) (de hle c _ hcv)⟩,λe=>by omega⟩)
  obtain⟨R3,E3⟩:=eQ (dst:=o.dst) (v:= .cv .undef) (cv:=undef) R2 (E1.trans E2) (by simp[LVR,VR]) (λb hb=>by simp[b6]at hb) hd;refine tI (hexec ?_) (hk _ _ _ _ _ G hop R3 E3);rw[hm.2,hkx];exact hrun
 ·rename_i lev i he;have hm:=eV R he;simp only[VR]at hm;split at hop<;>try(simp at hop;done)
  rename_i ks vs hob;obtain⟨hg,hop⟩:=bR.1 hop;simp only[cE]at hg;have hlt:lev<μ.length:=by
   by_cases hq:lev<μ.length
   ·exact hq
   ·simp only[ce]at hob;rw[eB bu]at hob;simp at hob
  have hobr:=R.mu lev i (by rw[<-R.lev];exact hlt);rw[hob]at hobr;simp only[ObR]at hobr;obtain⟨es,clk,hb,hO0,hM⟩:=hobr;obtain⟨es',clk',hrun,hkeys,hvals⟩:=Uh (P:=P) (c:=c) (v:=a.eval y) hu hkd hb hkk hM (rq hg.1);have hob2:bT (μ++[(bz h.take s).lam]) lev i= .map ks vs:=(cV hlt).trans hob;obtain⟨R2,E2⟩:=R1.setMap (s1:=bz h.take s) (μ1:=cx μ lev i (.map (qI ks kv) (qJ ks vs kv c))) hob2 hb rfl rfl rfl lG.1 (m3 hlt).symm (es':=es') (clk':=clk')
   (λw' hle=>⟨λe=>by rw[R.lev]at hlt;omega,λ_=>⟨hkeys,hvals _ w' (lM (hle.below lev) vs _ hM.2) (de (hle.below lev) c _ (LN c _ hg.2 hcv))⟩⟩)
  obtain⟨R3,E3⟩:=eQ (dst:=o.dst) (v:= .cv .undef) (cv:=undef) R2 (E1.trans E2) (by simp[LVR,VR]) (λb hb=>by simp[b6]at hb) hd;refine tI (hexec ?_) (hk _ _ _ _ _ G hop R3 E3);rw[hm.2,hkx];exact hrun
 ·simp at hop
def VL {x:LV}{q:List Value×List CV}{cv:Value}(R:Rel G L s μ a.tmps w)(h:C1 x s μ=some q)(hv:LVR G w L s.lam.length x cv):
 (q=([],[])/\cv= .map none)\/ ∃r es clk,cv= .map (some r)/\w.heap[r]? =some (.map es clk)/\Ad G w q.1 q.2 es:=by
 unfold C1 at h;split at h
 ·simp only[bP]at h;subst h;simp only[LVR,VR]at hv;obtain⟨r,es,clk,h1,h2,h3,h4,h5⟩:=hv;exact .inr ⟨r,es,clk,h1,h2,h4,h5⟩
 ·simp only[bP]at h;subst h;simp only[LVR,VR]at hv;simp_all
 ·rename_i i;split at h<;>try(simp at h;done)
  rename_i ks vs hob;simp only[bP]at h;subst h;simp only[LVR]at hv;have hobr:=R.lam i;rw[hob]at hobr;simp only[ObR]at hobr;grind
 ·rename_i lev i;split at h<;>try(simp at h;done)
  rename_i ks vs hob;simp only[bP]at h;subst h;simp only[LVR,VR]at hv;have hlt:lev<μ.length:=by
   by_cases hq:lev<μ.length
   ·exact hq
   ·simp only[ce]at hob;simp_all
  have hobr:=R.mu lev i (by rw[<-R.lev];exact hlt);rw[hob]at hobr;simp only[ObR]at hobr;obtain⟨es,clk,hb,_,hM⟩:=hobr;exact .inr ⟨_,es,clk,hv.2,hb,rF (ug G w lev) hM⟩
 ·simp at h
def abR {t:TypeId}{m x:Operand}{ok:Bool}(ho:o.op= .lookup t m x ok)(R:Rel G L s μ a.tmps w)(hd: ∀d,o.dst=some d->d<a.tmps.size)(hk:KOK L G w s μ a o.dst k r K)
 (hop:(nE P t (evA h s.fr m) (evA h s.fr x) ok (bz h.take s) μ λv=>k v (bz h.take s) μ)=some r):o.wp P a w K Q:=by
 obtain⟨R1,E1,hO⟩:=fI R h.take;have hl:=cq h.take s;unfold nE at hop;obtain⟨q,hq,hop⟩:=bA.1 hop;obtain⟨kt,hu,hkd⟩:=GI hq;obtain⟨kv,hkv,hop⟩:=bA.1 hop;obtain⟨hkx,hkk⟩:=JO hkv (cG R h x).1;obtain⟨pq,hpq,hop⟩:=bA.1 hop;obtain⟨hg,hop⟩:=bR.1 hop;have hmv:LVR G w L (bz h.take s).lam.length (evA h s.fr m) (a.eval m):=by rw[hl.1];exact(cG R h m).1
 have hmo:=VL R1 hpq hmv;have fin: ∀(c:CV) (v:Value) (b:Bool),VR G w c v->(Instr.lookup t (a.eval m) (a.eval x) ok).run P w= .ok (if ok then .tuple #[v,.bool b]else v) w->
  (ok=true->k (.ltup [.cv c,.cv (.v (.bool b))]) (bz h.take s) μ=some r)->(ok=false->k (.cv c) (bz h.take s) μ=some r)->o.wp P a w K Q:=by
  intro c v b hc hrun hT hF;cases ok with|true=>refine uP R hd hk (λcv bl hh=>by simp[b6]at hh) (hT rfl) ⟨.tuple #[v,.bool b],?_,De hc⟩;simp only[execOp,ho];exact fX (by simpa using hrun)|false=>refine uP R hd hk (λcv bl hh=>by simp[b6]at hh) (hF rfl) ⟨v,?_,by simpa[LVR]using hc⟩;simp only[execOp,ho];exact fX (by simpa using hrun)
 have runs: ∀(es:Array MapEntry),(a.eval m= .map none/\es= #[]\/ ∃r clk,a.eval m= .map (some r)/\w.heap[r]? =some (.map es clk))->Ad G w pq.1 pq.2 es->o.wp P a w K Q:=by
  intro es hes hM;obtain⟨f1,f2⟩:=MQ (G:=G) (w:=w) hkk (i:=0) hM.1 hM.2 (rq hg);have hnone:Instr.findNow q.1 kv es.toList 0=some none-> ∀v,(zeroValue q.2).run P w= .ok v w->(Instr.lookup t (a.eval m) (a.eval x) ok).run P w= .ok (if ok then .tuple #[v,.bool false]else v) w:=by
   intro hf v hz;rcases hes with⟨e1,rfl⟩|⟨r,clk,e1,hb⟩
   ·simp[Instr.lookup,df hu,e1,hkx,xQ hkd hkk,tX hkd hf,hz]
   ·simp[Instr.lookup,df hu,e1,hkx,Dj hb,xQ hkd hkk,tX hkd hf,hz]
  have hsome: ∀j v,Instr.findNow q.1 kv es.toList 0=some (some (j,v))->(Instr.lookup t (a.eval m) (a.eval x) ok).run P w= .ok (if ok then .tuple #[v,.bool true]else v) w:=by
   intro j v hf;rcases hes with⟨e1,rfl⟩|⟨r,clk,e1,hb⟩
   ·simp[Instr.lookup,df hu,e1,hkx,xQ hkd hkk,tX hkd hf]
   ·simp[Instr.lookup,df hu,e1,hkx,Dj hb,xQ hkd hkk,tX hkd hf]
  unfold optE at hop;cases hfd:lq pq.1 pq.2 kv with
  |none=>rw[hfd]at hop;obtain⟨z,hz,hop⟩:=bA.1 hop;obtain⟨zv,hzr,hzv⟩:=HG (G:=G) (w:=w) hz;grind
  |some c=>rw[hfd]at hop;obtain⟨j,v,hf,hcv⟩:=f2 c hfd;unfold jx at hop;obtain⟨c',hc',hcr⟩:=uV hop;exact fin c' v true (hcr G w L 0 v (by simpa[LVR]using hcv)) (hsome j v hf) (λe=>by subst e;exact hc') (λe=>by subst e;exact hc')
 rcases hmo with⟨e1,e2⟩|⟨r,es,clk,e1,hb,hM⟩
 ·exact runs #[] (.inl ⟨e2,rfl⟩) (by rw[e1];exact⟨rfl,by simp[VRL]⟩)
 ·exact runs es (.inr ⟨r,clk,e1,hb⟩) hM
end
section
variable {P:Program}{W0:World}{ρ:Rho}{α:Type}{L:Nat}{G:Gh}{w:World}{s:S}{μ:Mu}{a:Act}{o:Oper}{h:OpHint}{k:LV->S->Mu->Option α}{p:CV->S->Mu->Option α}{r:α}{K:Act->World->Prop}{Q:Exit->Act->World->Prop}
def iC (P:Program)(W0:World)(ρ:Rho):Prop:= ∀f args μ out,ρ.call f args μ=some out->fT P W0 f args μ out
def O0 {c:Call}{fx:Operand}{f:FuncId}{vs:Array Value}(ho:o.op= .call c)(hc:c.callee= .value fx)(he:a.eval fx= .func (.func f) #[] vs)
 (hfn: ∃fn cd,P.funcs[f]? =some fn/\fn.body=some cd/\(fn.name == "runtime.NumGoroutine")=false):
 (execOp a.eval o).run P w= .ok (.enter f (c.args.toList.map a.eval++vs.toList).toArray) w:=by
 obtain⟨fn,cd,h1,h2,h3⟩:=hfn;have e:(c.args.toList.map a.eval++vs.toList).toArray=c.args.map a.eval++vs:=by simp
 rw[e];simp only[execOp,ho,resolve,hc,he,Deferred.ofValue,dk,fA,dq,invoke,callFunc,run_program,h1,h3,h2,Option.isNone_some,d6,du,Array.empty_append]
def Yf {c:Call}{fx:Operand}(ho:o.op= .call c)(hc:c.callee= .value fx)(R:Rel G L s μ a.tmps w)(hd: ∀d,o.dst=some d->d<a.tmps.size)(hk:KOK L G w s μ a o.dst k r K)(hpk:POK L G w s μ a p r Q)
 (hrho:iC P W0 ρ) (hkn:Kn W0 w (bM G w s μ a.tmps)) {f:FuncId} {caps:List LV} (hdis:kF c.args.toList=true) {vs:Array Value} (he:a.eval fx= .func (.func f) #[] vs) (hcaps:en G w L s.lam.length caps vs.toList)
 (hop:io P ρ h o.type f (c.args.toList.map (evA h s.fr)++caps) (bz h.take s) μ k p=some r):o.wp P a w K Q:=by
 have A:=abL R (h:=h) hdis hcaps;have hl:=cq h.take s;unfold io at hop;split at hop
 ·obtain⟨hg,hop2⟩:=bR.1 hop;simp only[cE,iL]at hg;rw[hl.2]at hg;exact abQ R hd hk hpk hrho hkn hg.1 hg.2 A (O0 ho hc he) hop2
 ·obtain⟨args',ha,hop2⟩:=bA.1 hop;obtain⟨l,hlm,hop3⟩:=bA.1 hop2;rw[hl.1]at hlm;exact abP R hd hk hpk hrho hkn A ha hlm (O0 ho hc he) hop3
def Hc (R:Rel G L s μ a.tmps w)(hd: ∀d,o.dst=some d->d<a.tmps.size)(hk:KOK L G w s μ a o.dst k r K)(hpk:POK L G w s μ a p r Q)(hrho:iC P W0 ρ)(hkn:Kn W0 w (bM G w s μ a.tmps))
 (hop:ep P ρ h o s μ k p=some r):o.wp P a w K Q:=by
 unfold ep at hop;dsimp only at hop;split at hop
 ·exact Yj (.inl dw) R hd hk hop
 ·exact Yj (.inr dw) R hd hk hop
 ·exact agh dw R hd hk hop
 ·exact aeF dw R hd hk hop
 ·split at hop
  ·exact ahY dw R hd hk hop
  ·exact agd dw R hd hk hop
 ·exact aeH dw R hd hk hop
 ·split at hop<;>try(simp at hop;done)
  obtain⟨sz,h1,hop2⟩:=bA.1 hop;obtain⟨h2,hop3⟩:=bR.1 hop2;obtain⟨zc,h3,hop4⟩:=bA.1 hop3;rw[tP]at hop4;obtain⟨xs,h5',hop6⟩:=bA.1 hop4;obtain⟨ps,h4,h5⟩:=Ng h5';obtain⟨h6,hop7⟩:=bR.1 hop6;obtain⟨h7,hop8⟩:=bR.1 hop7;clear hop hop2 hop3 hop4 hop6 hop7;rw[cE]at h7;exact L4 dw R hd hk dw h1 h2 h3 h4 h5 (fb h6) (gr h7.2) h7.1 hop8
 ·exact agf dw R hd hk hop
 ·exact aeM dw R hd hk hop
 ·exact Vb dw R hd hk hop
 ·exact aeG dw R hd hk hop
 ·exact agi dw R hd hk hop
 ·refine Yg dw R hd hk hop λe l h1 h2 h3 h4 h5 h6=>Vc dw R hd hk h1 h2 h3 h4 h5 h6
 ·split at hop<;>try(simp at hop;done)
  rename_i hni hu;exact Gk dw hu (λms e=>hni ms (by first|exact e|rw[hu,e])) R hd hk hop
 ·split at hop<;>try(simp at hop;done)
  split at hop<;>try(simp at hop;done)
  exact Va dw dw R hd hk hop
 ·split at hop<;>try(simp at hop;done)
  exact aeL dw R hd hk hop
 ·exact Pz dw R hd hk hop
 ·exact aeI dw R hd hk hop
 ·exact PA dw R hd hk hop
 ·exact aeJ dw R hd hk hop
 ·exact Yh dw R hd hk hop
 ·split at hop<;>try(simp at hop;done)
  exact aeK dw R hpk dw hop
 ·exact L6 dw R hd hk hop
 ·split at hop<;>try(simp at hop;done)
  exact Yi dw R hd hk hop
 ·split at hop<;>try(simp at hop;done)
  exact PB dw dw R hd hk hop
 ·exact L5 (.inl dw) R hd hk hop
 ·exact L5 (.inr dw) R hd hk hop
 ·exact abR dw R hd hk hop
 ·split at hop
  ·split at hop
   ·split at hop<;>try(simp at hop;done)
    exact ahZ dw dw dw dw R hd hk hop
   ·split at hop<;>try(simp at hop;done)
    rename_i c hc hb x y t xt hx ht;exact abO (ts:=[xt]) dw dw hx ht R hd hk bE hop
   ·split at hop<;>try(simp at hop;done)
    exact age dw dw dw dw R hd hk hop
   ·split at hop<;>try(simp at hop;done)
    exact ah0 dw dw dw R hd hk hop
   ·split at hop<;>try(simp at hop;done)
    exact ah1 dw dw dw R hd hk hop
   ·simp at hop
  ·obtain⟨hdis,hop2⟩:=bR.1 hop;clear hop;split at hop2
   ·rename_i f caps he;have hv:=eV R he;simp only[VR]at hv;obtain⟨vs,e,hl⟩:=hv;refine Yf dw dw R hd hk hpk hrho hkn hdis e ?_ hop2;generalize vs.toList=vl at hl;clear hop2 he e
    induction caps generalizing vl with
    |nil=>simpa[en,VRL]using hl|cons c caps ih=>simp only[VRL]at hl;obtain⟨v,r,rfl,h1,h2⟩:=hl;simp only[dr,en];exact⟨v,r,rfl,bE,by simpa[LVR]using h1,ih r h2⟩
   ·rename_i f caps he;have hv:=λx (e:evA h s.fr x= .lclo f caps)=>e▸(cG R h x).1;replace hv:=hv _ he;simp only[LVR]at hv;obtain⟨vs,e,hl⟩:=hv;exact Yf dw dw R hd hk hpk hrho hkn hdis e hl hop2
   simp_all
  ·simp at hop
 ·simp at hop
structure SetOb (s:S) (μ:Mu) (s':S) (μ':Mu) (lv ix:Nat) (o:Ob):Prop where
 fr:s'.fr=s.fr
 pushed:s'.pushed=s.pushed
 len:s'.lam.length=s.lam.length
 mlen:μ'.length=μ.length
 glen: ∀l,(μ'.getD l []).length=(μ.getD l []).length
 at_: ∀l j,bT (μ'++[s'.lam]) l j=if l=lv/\j=ix then o else bT (μ++[s.lam]) l j
def afb {μ:Mu}{lev i:Nat}(h:b8 (ce μ lev i)):lev<μ.length/\i<(μ.getD lev []).length:=by
 unfold ce at h;split at h
 ·rename_i l hl;split at h
  ·grind
  ·exact h.elim
 ·exact h.elim
def Ki {s:S}{μ:Mu}{i:Nat}{o:Ob}(hi:i<s.lam.length):SetOb s μ {s with lam:=s.lam.set i o} μ μ.length i o:=by
 refine⟨rfl,rfl,bE,rfl,λ_=>rfl,λl j=> ?_⟩;rcases sL l μ.length with h|h|h
 ·rw[bT,bT,cV h,cV h,bB bu]
 ·subst h;rw[bT,bT,db,db,sb hi];simp
 ·rw[bT,bT,nG h,nG h,bB bu]
def Kh {s:S}{μ:Mu}{lv i:Nat}{o:Ob}(hl:lv<μ.length)(hi:i<(μ.getD lv []).length):SetOb s μ s (cx μ lv i o) lv i o:=by
 have e:μ[lv]? =some (μ.getD lv []):=by simp_all
 have em:cx μ lv i o=μ.set lv ((μ.getD lv []).set i o):=by rw[cx,e]
 refine⟨rfl,rfl,rfl,by rw[em];simp,λl=> ?_,λl j=> ?_⟩
 ·grind
 ·have hlen:(cx μ lv i o).length=μ.length:=by rw[em];simp
  rcases sL l μ.length with h|h|h
  ·rw[bT,bT,cV (by rw[hlen];exact h),cV h,em,ce,ce];grind
  ·subst h;rw[bB bu];rw[<-hlen,bT,db,hlen,bT,db]
  ·rw[bT,bT,nG (by rw[hlen];exact h),nG h,bB bu]
section
variable {tm tm2:Array Value}{lv ix:Nat}{ob:Ob}{sh s2 sv:S}{μh μ2 μv:Mu}{G2:Gh}{w2:World}
def Rel.drop (R:Rel G L s μ tm w)(H:SetOb s μ sh μh lv ix .dead):
 Rel G L sh μh tm w/\(∀l b,bK G w sh.fr tm (μh++[sh.lam]) l b->bK G w s.fr tm (μ++[s.lam]) l b/\ ∀k,l≠ .ob lv ix k)/\
 (∀l j,b8 (bT (μh++[sh.lam]) l j)->b8 (bT (μ++[s.lam]) l j)/\ ¬(l=lv/\j=ix)):=by
 have hlive: ∀l j,b8 (bT (μh++[sh.lam]) l j)->b8 (bT (μ++[s.lam]) l j)/\ ¬(l=lv/\j=ix):=by
  intro l j h;rw[H.at_]at h;split at h
  ·exact h.elim
  simp_all
 have hown: ∀l b,bK G w sh.fr tm (μh++[sh.lam]) l b->bK G w s.fr tm (μ++[s.lam]) l b/\ ∀k,l≠ .ob lv ix k:=by
  intro l b h;cases l with
  |fr t=>exact⟨by rw[H.fr]at h;exact h,λk e=>by cases e⟩|ob l j k=>obtain⟨_,h2⟩:=hlive l j (jQ h);refine⟨jR (fr':=sh.fr) (tm':=tm) (by rw[H.at_,bB h2]) rfl rfl h,λk' e=> ?_⟩;simp_all
 have hμ:=R.lev;have hμh:μh.length=L:=by rw[H.mlen,hμ]
 refine ⟨⟨hμh, λt => by rw [H.fr, H.len]; exact R.fr t, λi => ?_, λlev i hlt => ?_, λlev i lev' i' h h' e => R.inj lev i lev' i' (hlive lev i h).1 (hlive lev' i' h').1 e,
  λl l' b h h'=>R.own l l' b (hown l b h).1 (hown l' b h').1,λl b lev i h h' e=>R.apart l b lev i (hown l b h).1 (hlive lev i h').1 e,λlev hlt=>by rw[H.glen];exact R.nlt lev hlt,
  by rw[H.pushed,H.len];exact R.nL,R.ngt⟩,hown,hlive⟩
 ·have e1:bU sh.lam i=bT (μh++[sh.lam]) L i:=by rw[<-hμh];exact db.symm
  have e2:bU s.lam i=bT (μ++[s.lam]) L i:=by rw[<-hμ];exact db.symm
  rw[H.len,e1,H.at_];split
  ·trivial
  ·rw[<-e2];exact R.lam i
 ·have e1:ce μh lev i=bT (μh++[sh.lam]) lev i:=(cV bu).symm;have e2:ce μ lev i=bT (μ++[s.lam]) lev i:=(cV bu).symm;rw[e1,H.at_];split
  ·trivial
  ·rw[<-e2];exact R.mu lev i hlt
def Rel.undrop (R:Rel G L s μ tm w)(H:SetOb s μ sh μh lv ix .dead)(hob:bT (μ++[s.lam]) lv ix=ob)(hlv:b8 ob)(hpu:lv=L->s.pushed=true)(hle:lv<=L)
 (R2:Rel G2 L s2 μ2 tm2 w2) (E:Ext L (bM G w sh μh tm) G w G2 w2 (bM G2 w2 s2 μ2 tm2)) (hd:bT (μ2++[s2.lam]) lv ix= .dead) (V:SetOb s2 μ2 sv μv lv ix ob):
 Rel G2 L sv μv tm2 w2/\Ext L (bM G w s μ tm) G w G2 w2 (bM G2 w2 sv μv tm2):=by
 obtain⟨Rh,hown,hlive⟩:=R.drop H;have hμ:=R.lev;have hμ2:=R2.lev;have hμv:μv.length=L:=by rw[V.mlen,hμ2]
 have hl0:b8 (bT (μ++[s.lam]) lv ix):=by rw[hob];exact hlv
 have hβ:G2.β lv ix=G.β lv ix/\G2.sz lv ix=G.sz lv ix:=by
  rcases fu lv L with h|h
  ·exact(E.lev lv h).1 ix
  ·have:lv=L:=bu;subst this;have hi:ix<s.lam.length:=by rw[<-hμ]at hl0;rw[bT,db]at hl0;exact lO hl0
   exact(E.le.ref lv ix (by rw[R.nL,hpu rfl];simpa using hi)).2
 have hblk:G.β lv ix<w.heap.size/\ ¬bM G w sh μh tm (G.β lv ix):=by
  refine⟨R.touch_lt (.inr ⟨lv,ix,hl0,rfl⟩),?_⟩;rintro(⟨l,hb⟩|⟨lev,i,hb,e⟩)
  ·exact R.apart l _ lv ix (hown l _ hb).1 hl0 rfl
  ·obtain⟨h1,h2⟩:=hlive lev i hb;exact h2 (R.inj lev i lv ix h1 hl0 e)
 have hkeep:=E.keep _ hblk.1 hblk.2;have howned: ∀k b,bK G w s.fr tm (μ++[s.lam]) (.ob lv ix k) b->b<w.heap.size/\ ¬bM G w sh μh tm b:=by
  intro k b h;refine⟨R.touch_lt (.inl ⟨_,h⟩),?_⟩;rintro(⟨l,hb⟩|⟨lev,i,hb,e⟩)
  ·exact(hown l b hb).2 k (R.own l _ b (hown l b hb).1 h)
  ·exact R.apart _ b lev i h (hlive lev i hb).1 e
 have hownV: ∀l b,bK G2 w2 sv.fr tm2 (μv++[sv.lam]) l b->(b<w.heap.size/\ ¬bM G w sh μh tm b/\(∃k,l= .ob lv ix k)/\bK G w s.fr tm (μ++[s.lam]) l b)\/bK G2 w2 s2.fr tm2 (μ2++[s2.lam]) l b:=by
  intro l b h;cases l with
  |fr t=>exact .inr (by rw[V.fr]at h;exact h)|ob l j k=>
   by_cases hlj:l=lv/\j=ix
   ·obtain⟨rfl,rfl⟩:=hlj;have h3:bK G w s.fr tm (μ++[s.lam]) (.ob l j k) b:=jR (fr':=sv.fr) (tm':=tm2) (by rw[V.at_,hob];simp) hβ.1 hkeep.1 h;exact .inl ⟨(howned k b h3).1,(howned k b h3).2,⟨k,rfl⟩,h3⟩
   ·exact .inr (jR (fr':=sv.fr) (tm':=tm2) (by rw[V.at_,bB hlj]) rfl rfl h)
 have hliveV: ∀l j,b8 (bT (μv++[sv.lam]) l j)->(l=lv/\j=ix)\/b8 (bT (μ2++[s2.lam]) l j):=by
  intro l j h;rw[V.at_]at h;split at h
  ·exact .inl dw
  ·exact .inr h
 have hgrow:=E.grow
 refine ⟨⟨hμv, λt => by rw [V.fr, V.len]; exact R2.fr t, λi => ?_, λlev i hlt => ?_, λlev i lev' i' h h' e => ?_, λl l' b h h' => ?_, λl b lev i h h' e => ?_, λlev hlt => by rw [V.glen]; exact R2.nlt lev hlt,
  by rw[V.pushed,V.len];exact R2.nL,R2.ngt⟩,E.le,E.os,E.tape,E.output,E.size,λb hb hn=>E.keep b hb λht=>hn ?_,λb hb=> ?_,E.lev⟩
 ·have e1:bU sv.lam i=bT (μv++[sv.lam]) L i:=by rw[<-hμv];exact db.symm
  have e2:bU s2.lam i=bT (μ2++[s2.lam]) L i:=by rw[<-hμ2];exact db.symm
  rw[V.len,e1,V.at_];split
  ·rename_i hh;obtain⟨rfl,rfl⟩:=hh;have e3:bU s.lam i=ob:=by rw[<-hob,<-hμ];exact db.symm
   have hr:=R.lam i;rw[e3]at hr;have hnl: ∀j,j<s.lam.length->j<s2.lam.length/\G2.β L j=G.β L j/\G2.sz L j=G.sz L j:=by intro j hj;obtain⟨a1,a2⟩:=E.le.ref L j (by rw[R.nL,hpu rfl];simpa using hj);have:=R2.nL;refine⟨?_,a2⟩;split at this<;>omega
   rw[hβ.1,hβ.2];refine eS E.le ?_ (λj hj=>(hnl j hj).2) (λ_=>hkeep) (λcs j x cur e fz ho hx hb b' hb'=> ?_) hr
   ·rcases fu s2.lam.length s.lam.length with h|h
    ·have:=(hnl _ h).1;omega
    ·exact h
   ·have h3:bK G w s.fr tm (μ++[s.lam]) (.ob L i j) b':=by simp only[bK,hob,ho,hx];exact⟨cur,e,fz,hb,hb'⟩
    exact E.keep b' (howned j b' h3).1 (howned j b' h3).2
  ·rw[<-e2];exact R2.lam i
 ·have e1:ce μv lev i=bT (μv++[sv.lam]) lev i:=(cV bu).symm;have e2:ce μ2 lev i=bT (μ2++[s2.lam]) lev i:=(cV bu).symm;rw[e1,V.at_];split
  ·rename_i hh;obtain⟨rfl,rfl⟩:=hh;have e3:ce μ lev i=ob:=by rw[<-hob];exact(cV bu).symm
   have hr:=R.mu lev i hlt;rw[e3]at hr;rw[hβ.1,hβ.2];refine eS (E.le.below lev) (ct _) (λj hj=>by omega) (λ_=>hkeep) (λcs j x cur e fz ho hx hb b' hb'=> ?_) hr;have h3:bK G w s.fr tm (μ++[s.lam]) (.ob lev i j) b':=by simp only[bK,hob,ho,hx];exact⟨cur,e,fz,hb,hb'⟩
   exact E.keep b' (howned j b' h3).1 (howned j b' h3).2
  ·rw[<-e2];exact R2.mu lev i hlt
 ·rcases hliveV lev i h with⟨rfl,rfl⟩|h1<;>rcases hliveV lev' i' h' with⟨rfl,rfl⟩|h1'
  ·exact⟨rfl,rfl⟩
  ·exfalso;rw[hβ.1]at e;rcases hgrow _ (.inr ⟨lev',i',h1',e.symm⟩)with hh|hh
   ·exact hblk.2 hh
   ·omega
  ·exfalso;rw[hβ.1]at e;rcases hgrow _ (.inr ⟨lev,i,h1,e⟩)with hh|hh
   ·exact hblk.2 hh
   ·omega
  ·exact R2.inj lev i lev' i' h1 h1' e
 ·rcases hownV l b h with⟨h1,h2,_,h3⟩|h3<;>rcases hownV l' b h' with⟨h1',h2',_,h3'⟩|h3'
  ·exact R.own l l' b h3 h3'
  ·exfalso;rcases hgrow b (.inl ⟨_,h3'⟩)with hh|hh
   ·exact h2 hh
   ·omega
  ·exfalso;rcases hgrow b (.inl ⟨_,h3⟩)with hh|hh
   ·exact h2' hh
   ·omega
  ·exact R2.own l l' b h3 h3'
 ·rcases hownV l b h with⟨h1,h2,_,h3⟩|h3<;>rcases hliveV lev i h' with⟨rfl,rfl⟩|h3'
  ·rw[hβ.1]at e;exact R.apart l b _ _ h3 hl0 e
  ·rcases hgrow b (.inr ⟨lev,i,h3',e⟩)with hh|hh
   ·exact h2 hh
   ·omega
  ·rw[hβ.1]at e;subst e;rcases hgrow _ (.inl ⟨_,h3⟩)with hh|hh
   ·exact hblk.2 hh
   ·omega
  ·exact R2.apart _ b lev i h3 h3' e
 ·rcases ht with⟨l,hb2⟩|⟨lev,i,hb2,rfl⟩
  ·exact .inl ⟨l,(hown l _ hb2).1⟩
  ·exact .inr ⟨lev,i,(hlive lev i hb2).1,rfl⟩
 ·have hTT: ∀b,bM G w sh μh tm b->bM G w s μ tm b:=by
   rintro b (⟨l,hb⟩|⟨lev,i,hb,rfl⟩)
   ·exact .inl ⟨l,(hown l _ hb).1⟩
   ·exact .inr ⟨lev,i,(hlive lev i hb).1,rfl⟩
  rcases hb with⟨l,hb⟩|⟨lev,i,hb,rfl⟩
  ·rcases hownV l b hb with⟨_,_,_,h3⟩|h3
   ·exact .inl (.inl ⟨l,h3⟩)
   ·exact(hgrow b (.inl ⟨l,h3⟩)).imp (hTT b) id
  ·rcases hliveV lev i hb with⟨rfl,rfl⟩|h3
   ·rw[hβ.1];exact .inl (.inr ⟨_,_,hl0,rfl⟩)
   ·exact(hgrow _ (.inr ⟨lev,i,h3,rfl⟩)).imp (hTT _) id
end
def mg {o:Ob}:lp o=true↔b8 o:=by cases o<;>simp[lp,b8]
def BE {o:Ob}(h:(!lp o)=true):o= .dead:=by cases o<;>simp[lp]at h |-
def Pl.lev (L:Nat):Pl->Nat
 | .own _=>L| .out lev _=>lev
def Pl.idx:Pl->Nat
 | .own i=>i| .out _ i=>i
def Vx {β:Type}{t:Nat}{k:Pl->Ob->S->Mu->Option β}{r:β}(hμ:μ.length=L)(h:iq t s μ k=some r):
 ∃pl ob sh μh,SetOb s μ sh μh (pl.lev L) pl.idx .dead/\bT (μ++[s.lam]) (pl.lev L) pl.idx=ob/\b8 ob/\(pl.lev L=L->s.pushed=true)/\pl.lev L<=L/\(∀lev i,pl= .out lev i->lev<L/\i<(μ.getD lev []).length)/\k pl ob sh μh=some r:=by
 unfold iq at h;split at h
 ·rename_i i off hf;split at h<;>try(cases h;done)
  rename_i hp;obtain⟨h1,h2⟩:=bR.1 h;have h1:=mg.1 h1;refine⟨.own i,_,_,_,?_,?_,h1,λ_=>hp,?_,(λ_ _ e=>by cases e),h2⟩
  ·simp only[Pl.lev,Pl.idx];subst hμ;exact Ki (lO h1)
  ·simp only[Pl.lev,Pl.idx];subst hμ;exact db
  ·simp[Pl.lev]
 ·obtain⟨q,_,h⟩:=bA.1 h;obtain⟨h1,h2⟩:=bR.1 h;have h1:=mg.1 h1;obtain⟨h3,h4⟩:=afb h1;refine⟨.out q.1 q.2.1,_,_,_,Kh h3 h4,?_,h1,?_,?_,(λ_ _ e=>by injection e with e1 e2;subst e1 e2;exact⟨bu,h4⟩),h2⟩
  ·exact cV h3
  ·intro e;simp only[Pl.lev]at e;omega
  ·simp only[Pl.lev];omega
 ·cases h
def WW {β:Type}{pl:Pl}{ob:Ob}{k:S->Mu->Option β}{r:β}{dst:Option Tmp}{v:LV}{tm:Array Value}(R:Rel G L (s.put dst v) μ tm w)(hin: ∀lev i,pl= .out lev i->lev<L/\i<G.n lev)(h:jL pl ob s μ k=some r):
 ∃sv μv,SetOb (s.put dst v) μ (sv.put dst v) μv (pl.lev L) pl.idx ob/\bT (μ++[(s.put dst v).lam]) (pl.lev L) pl.idx= .dead/\k sv μv=some r:=by
 have hμ:=R.lev;have hlam:(s.put dst v).lam=s.lam:=by cases dst<;>rfl
 cases pl with
 |own i=>
  simp only[jL]at h;obtain⟨h1,h2⟩:=bR.1 h;simp only[cE]at h1;have hi:i<s.lam.length:=by simpa[pj]using h1.1
  refine⟨_,_,?_,?_,h2⟩
  ·simp only[Pl.lev,Pl.idx];have e:S.put {s with lam:=s.lam.set i ob} dst v={s.put dst v with lam:=(s.put dst v).lam.set i ob}:=by cases dst<;>rfl
   rw[e];subst hμ;exact Ki (by rw[hlam];exact hi)
  ·simp only[Pl.lev,Pl.idx];subst hμ;rw[bT,db,hlam];exact BE h1.2
 |out lev i=>
  simp only[jL]at h;obtain⟨h1,h2⟩:=bR.1 h;obtain⟨h3,h4⟩:=hin lev i rfl;refine⟨_,_,?_,?_,h2⟩
  ·simp only[Pl.lev,Pl.idx];exact Kh bu (by rw[<-R.nlt lev h3];exact h4)
  ·simp only[Pl.lev,Pl.idx];rw[bT,cV bu];rw[cE]at h1;exact BE h1.2
def WD (R:Rel G L s μ a.tmps w)(hd: ∀d,o.dst=some d->d<a.tmps.size)(hk:KOK L G w s μ a o.dst k r K)(hpk:POK L G w s μ a p r Q)(hrho:iC P W0 ρ)(hkn:Kn W0 w (bM G w s μ a.tmps))
 (hop:qd P ρ h o s μ k p=some r):o.wp P a w K Q:=by
 unfold qd at hop;split at hop
 ·exact Hc R hd hk hpk hrho hkn hop
 ·obtain⟨pl,ob,sh,μh,H,hob,hlv,hpu,hle,hpl,hop⟩:=Vx R.lev hop;obtain⟨Rh,hown,hlive⟩:=R.drop H;have hTT: ∀b,bM G w sh μh a.tmps b->bM G w s μ a.tmps b:=by
   rintro b (⟨l,hb⟩|⟨lev,i,hb,rfl⟩)
   ·exact .inl ⟨l,(hown l _ hb).1⟩
   ·exact .inr ⟨lev,i,(hlive lev i hb).1,rfl⟩
  have hin: ∀{G2:Gh} {w2:World} {T2:Nat->Prop},Ext L (bM G w sh μh a.tmps) G w G2 w2 T2-> ∀lev i,pl= .out lev i->lev<L/\i<G2.n lev:=by intro G2 w2 T2 E lev i e;obtain⟨h1,h2⟩:=hpl lev i e;exact⟨h1,by rw[(E.lev lev h1).2,R.nlt lev h1];exact h2⟩
  refine Hc Rh hd ?_ ?_ hrho (hkn.mono hTT) hop
  ·intro v s' μ' cv w' G' hk2 R' E';obtain⟨sv,μv,V,hdead,hk3⟩:=WW R' (hin E') hk2;obtain⟨RV,EV⟩:=R.undrop H hob hlv hpu hle R' E' hdead V;exact hk v sv μv cv w' G' hk3 RV EV
  ·intro v s' μ' pv w' G' hk2 R' hv E';exact hpk v s' μ' pv w' G' hk2 R' hv ((Ext.refl G w hTT).trans E')
def KOK.ext {G1:Gh}{s1:S}{μ1:Mu}(E:Ext L (bM G w s μ a.tmps) G w G1 w (bM G1 w s1 μ1 a.tmps)){dst:Option Tmp}(hk:KOK L G w s μ a dst k r K):KOK L G1 w s1 μ1 a dst k r K:=
 λv s' μ' cv w' G' h R E'=>hk v s' μ' cv w' G' h R (E.trans E')
def POK.ext {G1:Gh}{s1:S}{μ1:Mu}(E:Ext L (bM G w s μ a.tmps) G w G1 w (bM G1 w s1 μ1 a.tmps))(hk:POK L G w s μ a p r Q):POK L G1 w s1 μ1 a p r Q:=
 λv s' μ' cv w' G' h R hv E'=>hk v s' μ' cv w' G' h R hv (E.trans E')
def sk (R:Rel G L s μ a.tmps w)(hd: ∀d,o.dst=some d->d<a.tmps.size)(hk:KOK L G w s μ a o.dst k r K)(hpk:POK L G w s μ a p r Q)(hrho:iC P W0 ρ)(hkn:Kn W0 w (bM G w s μ a.tmps))
 (hop:opK P ρ h o s μ k p=some r):o.wp P a w K Q:=by
 unfold opK at hop;obtain⟨s1,h1,hop⟩:=bA.1 hop;rw[qF]at hop;obtain⟨s2,h2,hop⟩:=bA.1 hop;obtain⟨G1,R1,E1⟩:=zO h1 R;obtain⟨G2,R2,E2⟩:=uA h2 R1;exact WD R2 hd (hk.ext (E1.trans E2)) (hpk.ext (E1.trans E2)) hrho (hkn.ext (E1.trans E2)) hop
end
section
variable {P:Program}{W0:World}{ρ:Rho}{α:Type}{L:Nat}{H:Hints}{rg:Nat}{ops:Array Oper}{r:α}{Q:Exit->Act->World->Prop}
structure Keep where
 ds:List Deferred
 kp:Option (Nat×Value)
def Keep.at (K:Keep)(a:Act):Prop:=a.defers=K.ds/\ ∀t v,K.kp=some (t,v)->a.tmps.getD t undef=v
def Keep.slot (K:Keep):Option Nat:=match K.kp with|some q=>some q.1|none=>none
def Keep.lets (K:Keep)(d:Nat):Prop:= ∀t v,K.kp=some (t,v)->d≠t
def Keep.put {K:Keep}{a:Act}(h:K.at a){dst:Option Tmp}{v:Value}(hd: ∀d,dst=some d->K.lets d):K.at (a.put dst v):=by
 cases dst with|none=>exact h|some d=>refine⟨h.1,λt u e=> ?_⟩;have hne:=hd d rfl t u e;rw[<-h.2 t u e];simp only[Act.put,ex,Array.getElem?_setIfInBounds];simp_all
def UB {α:Type}(L:Nat)(G:Gh)(w:World)(T:Nat->Prop)(n:Nat)(ds:Keep)(k:S->Mu->Option α)(r:α)(Q:Exit->Act->World->Prop):Prop:=
 ∀s μ a w' G',k s μ=some r->Rel G' L s μ a.tmps w'->Ext L T G w G' w' (bM G' w' s μ a.tmps)->a.tmps.size=n->ds.at a->Q .normal a w'
def HY {α:Type}(L:Nat)(G:Gh)(w:World)(T:Nat->Prop)(n:Nat)(ds:Keep)(p:CV->S->Mu->Option α)(r:α)(Q:Exit->Act->World->Prop):Prop:=
 ∀v s μ pv a w' G',p v s μ=some r->Rel G' L s μ a.tmps w'->VR G' w' v pv->Ext L T G w G' w' (bM G' w' s μ a.tmps)->a.tmps.size=n->ds.at a->Q (.panic [{v:=pv,recovered:=false}]) a w'
def ady (g:Fr)(t:Nat)(v:LV)(h:g t=v):upd g t v=g:=by
 funext u;by_cases hu:u=t
 ·subst hu;rw[j6,h]
 ·rw[jo g v hu]
def S.set_self (s:S)(t:Nat)(v:LV)(h:s.fr t=v):s.set t v=s:=by unfold S.set;rw[ady s.fr t v h]
def oJ (a:Act)(d:Option Tmp)(v:Value):(a.put d v).tmps.size=a.tmps.size/\(a.put d v).defers=a.defers:=by cases d<;>simp[Act.put]
def HE {G:Gh}{w:World}{s:S}{μ:Mu}{a:Act}(R:Rel G L s μ a.tmps w){j d:Nat}{b:Bool}(hd:tr ops j=some d)(hlt: ∀(i:Nat) (o:Oper),ops[i]? =some o-> ∀d,o.dst=some d->d<a.tmps.size)
 (hb:bO (s.fr d)=some b):yielded ops a.tmps j=some b:=by
 have hv:=R.fr d;rw[jF hb]at hv;simp only[LVR,VR]at hv;unfold tr at hd;cases ho:ops[j]? with
 |none=>rw[ho]at hd;simp at hd|some o=>
  rw[ho]at hd;have hd:o.dst=some d:=hd;have hsz:=hlt j o ho d hd;have:a.tmps[d]? =some (.bool b):=by simp_all
  simp[yielded,ho,hd,this]
def oA {v:LV}{b:Bool}(h:ip v=some (some b)):bO v=some b:=by
 unfold ip at h;split at h
 ·simpa[bO]using h
 ·simp at h
 ·simp at h
def Ky {v:LV}(h:ip v=some none): ∃cs,v= .cv (.v (.tuple cs)):=by unfold ip at h;grind
def CD {G:Gh}{w:World}{s:S}{μ:Mu}{a:Act}(R:Rel G L s μ a.tmps w){j d:Nat}(hd:tr ops j=some d)(hlt: ∀(i:Nat) (o:Oper),ops[i]? =some o-> ∀d,o.dst=some d->d<a.tmps.size)
 (hb:ip (s.fr d)=some none):yielded ops a.tmps j=none:=by
 have hv:=R.fr d;obtain⟨cs,e⟩:=Ky hb;rw[e]at hv;simp only[LVR,VR]at hv;unfold tr at hd;cases ho:ops[j]? with
 |none=>rw[ho]at hd;simp at hd|some o=>
  rw[ho]at hd;have hd:o.dst=some d:=hd;have hsz:=hlt j o ho d hd;have:a.tmps[d]? =some (.tuple cs):=by simp_all
  simp[yielded,ho,hd,this]
def Rel.skip {G:Gh}{w:World}{s:S}{μ:Mu}{a:Act}(R:Rel G L s μ a.tmps w)(dst:Option Tmp)(hd: ∀d,dst=some d->d<a.tmps.size):
 Rel G L (s.put dst (.cv (.v undef))) μ (a.put dst undef).tmps w/\Ext L (bM G w s μ a.tmps) G w G w (bM G w (s.put dst (.cv (.v undef))) μ (a.put dst undef).tmps):=
 eQ R (Ext.refl G w λ_ h=>h) (by simp[LVR,VR]) (λb hb=>by simp[b6]at hb) hd
def lT (hrho:iC P W0 ρ){T:Nat->Prop}{G0:Gh}{w0:World}{n:Nat}{ds:Keep}{k:S->Mu->Option α}{p:CV->S->Mu->Option α}(hlt: ∀(i:Nat) (o:Oper),ops[i]? =some o-> ∀d,o.dst=some d->d<n/\ds.lets d)
 (hkn:Kn W0 w0 T) (hk:UB L G0 w0 T n ds k r Q) (hp:HY L G0 w0 T n ds p r Q):
 ∀(l:List Nat) {G:Gh} {w:World} {s:S} {μ:Mu} {a:Act},gY P ρ H rg ops l s μ k p=some r->Rel G L s μ a.tmps w->Ext L T G0 w0 G w (bM G w s μ a.tmps)->a.tmps.size=n->ds.at a->wpOps P ops Q l a w
 |[],G,w,s,μ,a,h,R,E,hn,hds=>by simp only[gY]at h;simp only[wpOps];exact hk s μ a w G h R E hn hds|i::rest,G,w,s,μ,a,h,R,E,hn,hds=>by
  simp only[gY]at h;simp only[wpOps];cases ho:ops[i]? with
  |none=>rw[ho]at h;simp at h|some o=>
   rw[ho]at h;simp only at h |-;have hlt': ∀d,o.dst=some d->d<a.tmps.size:=λd hd=>by rw[hn];exact(hlt i o ho d hd).1
   have hlt2: ∀(i:Nat) (o:Oper),ops[i]? =some o-> ∀d,o.dst=some d->d<a.tmps.size:=λi o ho d hd=>by rw[hn];exact(hlt i o ho d hd).1
   have hkok:KOK L G w s μ a o.dst (λv s μ=>gY P ρ H rg ops rest (s.put o.dst v) μ k p) r (wpOps P ops Q rest):=by intro v s' μ' cv w' G' h' R' E';exact lT hrho hlt hkn hk hp rest h' R' (E.trans E') (by rw[(oJ a o.dst cv).1];exact hn) (Keep.put hds λd hd=>(hlt i o ho d hd).2)
   have hpok:POK L G w s μ a p r Q:=λv s' μ' pv w' G' h' R' hv E'=>hp v s' μ' pv a w' G' h' R' hv (E.trans E') hn hds;cases hg:o.guard with
   |none=>
    rw[hg]at h;have hw:Region.wanted o (yielded ops a.tmps)=true:=by simp[Region.wanted,hg]
    rw[bC hw];exact .inl (sk R hlt' hkok hpok hrho (hkn.ext E) h)
   |some g=>
    rw[hg]at h;simp only at h;obtain⟨d,hd,h⟩:=bA.1 h;obtain⟨q,hq,h⟩:=bA.1 h;cases q with
    |none=>
     have hy:=CD R hd hlt2 hq;obtain⟨j,want⟩:=g;simp only at hd hy h;have hw: ¬Region.wanted o (yielded ops a.tmps)=true:=by simp[Region.wanted,hg,hy]
     rw[bB hw];obtain⟨R2,E2⟩:=R.skip o.dst hlt';exact lT hrho hlt hkn hk hp rest h R2 (E.trans E2) (by rw[(oJ a o.dst undef).1];exact hn) (Keep.put hds λd hd=>(hlt i o ho d hd).2)
    |some b=>
    have hb:=oA hq;have hy:=HE R hd hlt2 hb;have hbe:=jF hb;obtain⟨j,want⟩:=g;simp only at hd hy h;cases b with
    |true=>
     rw[S.set_self s d _ hbe]at h;simp only[bH]at h;cases want with
     |true=>
      have hw:Region.wanted o (yielded ops a.tmps)=true:=by simp[Region.wanted,hg,hy]
      rw[bC hw];exact .inl (sk R hlt' hkok hpok hrho (hkn.ext E) h)
     |false=>
      have hw: ¬Region.wanted o (yielded ops a.tmps)=true:=by simp[Region.wanted,hg,hy]
      rw[bB hw];obtain⟨R2,E2⟩:=R.skip o.dst hlt';exact lT hrho hlt hkn hk hp rest h R2 (E.trans E2) (by rw[(oJ a o.dst undef).1];exact hn) (Keep.put hds λd hd=>(hlt i o ho d hd).2)
    |false=>
     rw[S.set_self s d _ hbe]at h;simp only[bI]at h;cases want with
     |false=>
      have hw:Region.wanted o (yielded ops a.tmps)=true:=by simp[Region.wanted,hg,hy]
      rw[bC hw];exact .inl (sk R hlt' hkok hpok hrho (hkn.ext E) h)
     |true=>
      have hw: ¬Region.wanted o (yielded ops a.tmps)=true:=by simp[Region.wanted,hg,hy]
      rw[bB hw];obtain⟨R2,E2⟩:=R.skip o.dst hlt';exact lT hrho hlt hkn hk hp rest h R2 (E.trans E2) (by rw[(oJ a o.dst undef).1];exact hn) (Keep.put hds λd hd=>(hlt i o ho d hd).2)
def Vk {n:Nat}{ds:Keep}{d:Nat}(h:Vj n ds.slot d=true):d<n/\ds.lets d:=by
 unfold Vj at h;split at h
 ·rename_i hb;refine⟨by simpa[pj]using hb,λt v e hdt=> ?_⟩;simp only[Keep.slot,e]at h;simp_all
 ·cases h
def qe {n:Nat}{ds:Keep}: ∀{l:List Oper},sm n ds.slot l=true-> ∀{i:Nat} {o:Oper},l[i]? =some o-> ∀d,o.dst=some d->d<n/\ds.lets d
 |[],_,i,o,h,d,_=>by simp at h|x::r,hl,i,o,h,d,hd=>by
  have key:sm n ds.slot r=true/\ ∀d,x.dst=some d->d<n/\ds.lets d:=by
   simp only[sm]at hl;split at hl
   ·simp_all
   ·rename_i d' e;split at hl
    ·rename_i hb;exact⟨hl,λd hd=>by rw[e]at hd;injection hd with hd;subst hd;exact Vk hb⟩
    ·simp at hl
  cases i with|zero=>simp only[ft,bP]at h;subst h;exact key.2 d hd|succ i=>exact qe key.1 (by simpa using h) d hd
end
section
variable {α β γ:Type}
def bY {x:Option α}{f:α->Option β}{k:β->Option γ}:opt (opt x f) k=opt x λa=>opt (f a) k:=by cases x<;>rfl
def cZ {b:Bool}{x:Option β}{k:β->Option γ}:opt (bD b x) k=bD b (opt x k):=by cases b<;>rfl
theorem jv {k:β->Option γ}:opt (none:Option β) k=none:=rfl
theorem cD {a:β}{k:β->Option γ}:opt (some a) k=k a:=rfl
def JU {d:TypeDesc}{x:LV}{f:CV->Option β}{k:β->Option γ}:opt (k9 d x f) k=k9 d x λc=>opt (f c) k:=by unfold k9;cases d<;>exact bY
def zg: ∀{ds:List TypeDesc} {cs:List CV} {f:List CV->Option β} {k:β->Option γ},opt (gG ds cs f) k=gG ds cs λc=>opt (f c) k
 |[],cs,f,k=>by unfold gG;exact bY|d::ds,cs,f,k=>by unfold gG;simp only[bY,JU,zg]
variable {P:Program}
def p9 {t:TypeId}{x:LV}{f:CV->Option β}{k:β->Option γ}:opt (j5 P t x f) k=j5 P t x λc=>opt (f c) k:=by
 unfold j5;cases dN P t
 ·cases P.underlying t
  ·rfl
  ·exact JU
 ·cases GE P t<;>simp only[bY,zg]
def GZ {own:Bool}{t:TypeId}{x:LV}{f:LV->Option β}{k:β->Option γ}:opt (om P own t x f) k=om P own t x λc=>opt (f c) k:=by
 unfold om;cases own
 ·exact p9
 ·exact bY
def BO: ∀{ts:List TypeId} {xs:List LV} {f:List LV->Option β} {k:β->Option γ},opt (i6 P ts xs f) k=i6 P ts xs λc=>opt (f c) k
 |[],xs,f,k=>by unfold i6;exact bY|t::ts,xs,f,k=>by unfold i6;simp only[bY,GZ,BO]
def kK {own:Bool}{t:TypeId}{x:LV}{f:LV->Option β}{k:β->Option γ}:opt (fq P own t x f) k=fq P own t x λc=>opt (f c) k:=by
 unfold fq;split
 ·simp only[bY,BO]
 ·exact GZ
def DN {b:Bool}{t:TypeId}{x:LV}{f:LV->Option β}{k:β->Option γ}:opt (pf P b t x f) k=pf P b t x λc=>opt (f c) k:=by
 cases b with|true=>exact kK|false=>rfl
def ZT {h:OpHint}{t:TypeId}{a:LV}{s:S}{μ:Mu}{f:LV->S->Mu->Option β}{k:β->Option γ}:opt (ke P h t a s μ f) k=ke P h t a s μ λv s μ=>opt (f v s μ) k:=by
 unfold ke;split
 ·split
  ·rfl
  ·split
   ·simp only[bY,DN]
   ·exact bY
 ·split
  ·simp only[bY]
  ·simp only[bY];congr;funext q;split<;>simp only[bY,kK]
 ·rfl
def VP {h:OpHint}{t:TypeId}{a v:LV}{s:S}{μ:Mu}{f:LV->S->Mu->Option β}{k:β->Option γ}:opt (mb P h t a v s μ f) k=mb P h t a v s μ λv s μ=>opt (f v s μ) k:=by
 unfold mb;split
 ·split
  ·rfl
  ·simp only[rt];exact bY
 ·split
  ·rfl
  ·simp only[bY,cZ]
 ·rfl
def xd {h:OpHint}{t:TypeId}{a:LV}{i:Nat}{f:LV->Option β}{k:β->Option γ}:opt (jE P h t a i f) k=jE P h t a i λc=>opt (f c) k:=by
 unfold jE;simp only[bY];congr;funext q;split
 ·rfl
 ·split
  ·simp only[bY,zg,cZ]
  ·simp only[bY]
 ·rfl
def JV {b:Bool}{m:Nat}{c:CV}{f:LV->Option β}{k:β->Option γ}:opt (pS b m c f) k=pS b m c λv=>opt (f v) k:=by
 cases b
 ·simp only[pS,cZ]
 ·simp only[pS,cZ]
def xe {h:OpHint}{t:TypeId}{a:LV}{i:Int}{f:LV->Option β}{k:β->Option γ}:opt (jG P h t a i f) k=jG P h t a i λc=>opt (f c) k:=by
 unfold jG jx;split
 ·simp only[bY];congr;funext q;split
  ·exact cZ
  ·simp only[bY,p9,JV]
  ·split<;>simp only[bY,p9,cZ,JV]
  ·rfl
 ·simp only[bY];congr;funext q;split
  ·exact cZ
  ·split<;>simp only[bY,cZ]
  ·rfl
 ·rfl
def GX {t:TypeId}{a:LV}{i:Int}{f:LV->Option β}{k:β->Option γ}:opt (pY P t a i f) k=pY P t a i λc=>opt (f c) k:=by
 unfold pY jx;split
 ·simp only[bY]
 ·split
  ·simp only[bY,cZ,p9]
  ·rfl
 ·rfl
def GW {ev:Operand->LV}{x:Option Operand}{d:Int}{f:Int->Option β}{k:β->Option γ}:opt (fV ev x d f) k=fV ev x d λc=>opt (f c) k:=by
 unfold fV;cases x
 ·rfl
 ·exact bY
def GY {t:TypeId}{x:LV}{lo hi:Option Operand}{ev:Operand->LV}{f:LV->Option β}{k:β->Option γ}:opt (l9 P t x lo hi ev f) k=l9 P t x lo hi ev λc=>opt (f c) k:=by
 unfold l9;split
 ·simp only[bY,GW]
 ·simp only[bY];congr;funext q;split<;>simp only[bY,GW,cZ,jv]
 ·rfl
def DL {h:OpHint}{t:TypeId}{xt:Option TypeId}{x y:LV}{s:S}{μ:Mu}{f:LV->S->Mu->Option β}{k:β->Option γ}:opt (nr P h t xt x y s μ f) k=nr P h t xt x y s μ λv s μ=>opt (f v s μ) k:=by
 unfold nr;split
 ·cases xt
  ·simp only[bY,cZ,jv]
  ·simp only[bY,cZ];congr;funext q;congr;funext q;congr;cases h.own
   ·simp only[bY];congr;funext q;split<;>simp only[bY,cZ,jv]
   ·simp only[bY];congr;funext q;split<;>simp only[bY,cZ,jv]
 ·rfl
def BN {h:OpHint}{src dst:TypeId}{x:LV}{s:S}{μ:Mu}{f:LV->S->Mu->Option β}{k:β->Option γ}:opt (gb P h src dst x s μ f) k=gb P h src dst x s μ λv s μ=>opt (f v s μ) k:=by
 unfold gb;split
 ·split<;>simp only[bY,jv]
 ·split
  ·simp only[bY]
  ·split
   ·split
    ·split<;>simp only[bY,cZ,jv]
    ·simp only[bY]
   ·rfl
  ·rfl
 ·split
  ·split
   ·simp only[bY,cZ];grind
   ·rfl
  ·rfl
 ·rfl
def acY {x:Option α}{f:α->Option β}{g:Option β}{k:β->Option γ}:opt (optE x f g) k=optE x (λa=>opt (f a) k) (opt g k):=by cases x<;>rfl
def DM {t:TypeId}{m x y:LV}{s:S}{μ:Mu}{f:LV->S->Mu->Option β}{k:β->Option γ}:opt (mj P t m x y s μ f) k=mj P t m x y s μ λv s μ=>opt (f v s μ) k:=by
 unfold mj;simp only[bY];congr;funext q;congr;funext q2;congr;funext q3;split
 ·split<;>first|exact cZ|rfl
 ·split<;>first|exact cZ|rfl
 ·rfl
def PY {t:TypeId}{m x:LV}{ok:Bool}{s:S}{μ:Mu}{f:LV->Option β}{k:β->Option γ}:opt (nE P t m x ok s μ f) k=nE P t m x ok s μ λv=>opt (f v) k:=by unfold nE jx;cases ok<;>simp only[bY,cZ,acY,p9]
def PX {x:LV}{t:TypeId}{ok:Bool}{f:LV->Option β}{k:β->Option γ}:opt (nt P x t ok f) k=nt P x t ok λv=>opt (f v) k:=by
 unfold nt;split
 ·rfl
 ·split
  ·rfl
  ·simp only[bY];congr;funext z;split
   ·split<;>rfl
   ·rfl
   ·rfl
 ·rfl
def No {op:BinOp}{t:TypeId}{x y:Operand}{a b:LV}{f:CV->Option β}{k:β->Option γ}:opt (vZ P op t x y a b f) k=vZ P op t x y a b λc=>opt (f c) k:=by
 unfold vZ;split
 ·simp only[bY]
 ·simp only[bY,cZ]
variable {ρ:Rho}
def JT {x:Option Out}{f:LV->Mu->Option β}{p:CV->Mu->Option β}{k:β->Option γ}:opt (callK x f p) k=callK x (λv μ=>opt (f v μ) k) λv μ=>opt (p v μ) k:=by unfold callK;rw[bY];grind
def tw {h:OpHint}{t:TypeId}{g:FuncId}{args:List LV}{s:S}{μ:Mu}{f:LV->S->Mu->Option β}{p:CV->S->Mu->Option β}{k:β->Option γ}:
 opt (io P ρ h t g args s μ f p) k=io P ρ h t g args s μ (λv s μ=>opt (f v s μ) k) λv s μ=>opt (p v s μ) k:=by
 unfold io;split
 ·simp only[cZ,JT,kK]
 ·simp only[bY,JT,kK]
def Fk {h:OpHint}{o:Oper}{s:S}{μ:Mu}{f:LV->S->Mu->Option β}{p:CV->S->Mu->Option β}{k:β->Option γ}:
 opt (ep P ρ h o s μ f p) k=ep P ρ h o s μ (λv s μ=>opt (f v s μ) k) λv s μ=>opt (p v s μ) k:=by
 unfold ep;dsimp only;split
 ·rfl
 ·rfl
 ·exact bY
 ·exact bY
 ·split
  ·simp only[pM,bY]
  ·simp only[bY,cZ]
 ·simp only[vC,bY]
 ·split
  ·simp only[tP,bY,cZ];grind
  ·rfl
 ·exact ZT
 ·exact VP
 ·simp only[bY,cZ]
 ·exact No
 ·exact bY
 ·exact BN
 ·split<;>simp only[bY,jv]
 ·split
  ·split<;>rfl
  ·rfl
 ·split
  ·exact GY
  ·rfl
 ·exact xd
 ·exact bY
 ·simp only[bY,xe]
 ·simp only[bY,GX]
 ·simp only[bY]
 ·split<;>rfl
 ·exact PX
 ·split<;>rfl
 ·split
  ·unfold GU;split
   ·simp only[bY,cZ]
   ·rfl
  ·rfl
 ·exact DM
 ·exact DM
 ·exact PY
 ·split
  ·split
   ·split<;>simp only[bY,jv]
   ·split
    ·exact DL
    ·rfl
   ·split
    ·unfold Gp;split
     ·simp only[bY];congr;funext q;split
      ·split
       ·simp only[bY,cZ]
       ·rfl
      ·rfl
     ·rfl
    ·rfl
   ·split<;>simp only[bY,jv]
   ·split<;>simp only[bY,jv]
   ·rfl
  ·rw[cZ];congr;split
   ·exact tw
   ·exact tw
   ·rfl
  ·rfl
 ·rfl
def cP (P:Program)(ρ:Rho)(h:OpHint)(o:Oper)(s:S)(μ:Mu):Option (LV×S×Mu):=ep P ρ h o s μ (λv s μ=>some (v,s,μ)) λ_ _ _=>none
def J5 {h:OpHint}{o:Oper}{s:S}{μ:Mu}{f:LV->S->Mu->Option β}:ep P ρ h o s μ f (λ_ _ _=>none)=opt (cP P ρ h o s μ) λq=>f q.1 q.2.1 q.2.2:=by unfold cP;rw[Fk];rfl
def JW {t:Nat}{s:S}{μ:Mu}{k:Pl->Ob->S->Mu->Option β}{f:β->Option γ}:opt (iq t s μ k) f=iq t s μ λpl ob s μ=>opt (k pl ob s μ) f:=by
 unfold iq;split
 ·split
  ·exact cZ
  ·rfl
 ·simp only[bY,cZ]
 ·rfl
def JX {pl:Pl}{ob:Ob}{s:S}{μ:Mu}{k:S->Mu->Option β}{f:β->Option γ}:opt (jL pl ob s μ k) f=jL pl ob s μ λs μ=>opt (k s μ) f:=by unfold jL;split<;>exact cZ
def lU (P:Program)(ρ:Rho)(h:OpHint)(o:Oper)(s:S)(μ:Mu):Option (LV×S×Mu):=
 match h.hide with
 |none=>cP P ρ h o s μ|some t=>iq t s μ λpl ob s μ=>opt (cP P ρ h o s μ) λq=>jL pl ob q.2.1 q.2.2 λs μ=>some (q.1,s,μ)
def J6 {h:OpHint}{o:Oper}{s:S}{μ:Mu}{f:LV->S->Mu->Option β}:qd P ρ h o s μ f (λ_ _ _=>none)=opt (lU P ρ h o s μ) λq=>f q.1 q.2.1 q.2.2:=by
 unfold qd lU;cases h.hide with|none=>exact J5|some t=>simp only[J5,JW,JX,bY,cD]
end
def Ag (h:OpHint)(o:Oper)(s t:S):Prop:= ∀x,x∈o.op.operands.toList->evA h t.fr x=evA h s.fr x
section
variable {P:Program}{ρ:Rho}{h:OpHint}{o:Oper}{s t:S}{μ ν:Mu}
def eC (P:Program)(ρ:Rho)(h:OpHint)(o:Oper)(s t:S)(μ ν:Mu):Prop:=cP P ρ h o t ν=opt (cP P ρ h o s μ) λq=>some (q.1,bz h.take t,ν)
def Ug {x:Operand}(ho:o.op= .move x\/o.op= .assign x)(ha:Ag h o s t):eC P ρ h o s t μ ν:=by have e:evA h t.fr x=evA h s.fr x:=ha x (by rcases ho with ho|ho<;>simp[ho,Op.operands]);rcases ho with ho|ho<;>simp only[eC,cP,ep,ho,e,cD]
def afG {c x y:Operand}(ho:o.op= .pick c x y)(ha:Ag h o s t):eC P ρ h o s t μ ν:=by have e1:=ha c (by simp[ho,Op.operands]);have e2:=ha x (by simp[ho,Op.operands]);have e3:=ha y (by simp[ho,Op.operands]);simp only[eC,cP,ep,ho,e1,e2,e3,bY,cD]
def ac4 {ty:TypeId}{parts:Array (Nat×Operand)}(ho:o.op= .build ty parts)(ha:Ag h o s t):eC P ρ h o s t μ ν:=by have e:pH P ty (evA h t.fr) parts.toList=pH P ty (evA h s.fr) parts.toList:=L0 λq hq=>ha q.2 (by simp only[ho,Op.operands];simp;exact⟨q.1,by simpa using hq⟩);simp only[eC,cP,ep,ho,vC,e,bY,cD]
def afF {e:TypeId}{x:Operand}(ho:o.op= .box e x)(hr:h.cell=true)(ha:Ag h o s t):eC P ρ h o s t μ ν:=by have e:=ha x (by simp[ho,Op.operands]);simp only[eC,cP,ep,ho,hr,e,bY,cZ,cD]
def RH {x:Operand}(ho:o.op= .nilCheck x)(ha:Ag h o s t):eC P ρ h o s t μ ν:=by have e:=ha x (by simp[ho,Op.operands]);simp only[eC,cP,ep,ho,e,bY,cZ,cD]
def ac3 {op:BinOp}{ty ty':TypeId}{x y:Operand}(ho:o.op= .binOp op ty x y ty')(ha:Ag h o s t):eC P ρ h o s t μ ν:=by have e1:=ha x (by simp[ho,Op.operands]);have e2:=ha y (by simp[ho,Op.operands]);simp only[eC,cP,ep,ho,e1,e2,No,cD]
def afH {op:UnOp}{ty:TypeId}{x:Operand}(ho:o.op= .unOp op ty x)(ha:Ag h o s t):eC P ρ h o s t μ ν:=by have e:=ha x (by simp[ho,Op.operands]);simp only[eC,cP,ep,ho,e,bY,cD]
def Fy {ty:TypeId}{x:Operand}(ho:o.op= .makeInterface ty x)(ha:Ag h o s t):eC P ρ h o s t μ ν:=by have e:=ha x (by simp[ho,Op.operands]);simp only[eC,cP,ep,ho,e];split<;>simp only[bY,cD,jv]
def ON {ty:TypeId}{x:Operand}{f:Nat}(ho:o.op= .fieldAddr ty x f)(ha:Ag h o s t):eC P ρ h o s t μ ν:=by have e:=ha x (by simp[ho,Op.operands]);simp only[eC,cP,ep,ho,e,xd,cD]
def ac5 {ty:TypeId}{x:Operand}{f:Nat}(ho:o.op= .field ty x f)(ha:Ag h o s t):eC P ρ h o s t μ ν:=by have e:=ha x (by simp[ho,Op.operands]);simp only[eC,cP,ep,ho,e,bY,cD]
def OO {ty:TypeId}{x y:Operand}(ho:o.op= .indexAddr ty x y)(ha:Ag h o s t):eC P ρ h o s t μ ν:=by have e1:=ha x (by simp[ho,Op.operands]);have e2:=ha y (by simp[ho,Op.operands]);simp only[eC,cP,ep,ho,e1,e2,bY,xe,cD]
def ac6 {ty:TypeId}{x y:Operand}(ho:o.op= .index ty x y)(ha:Ag h o s t):eC P ρ h o s t μ ν:=by have e1:=ha x (by simp[ho,Op.operands]);have e2:=ha y (by simp[ho,Op.operands]);simp only[eC,cP,ep,ho,e1,e2,bY,GX,cD]
def WI {x:Operand}{i:Nat}(ho:o.op= .extract x i)(ha:Ag h o s t):eC P ρ h o s t μ ν:=by have e:=ha x (by simp[ho,Op.operands]);simp only[eC,cP,ep,ho,e,bY,cD]
def Bo {β:Type}{ev ev':Operand->LV}{x:Option Operand}{d:Int}{f:Int->Option β}(h: ∀y,x=some y->ev' y=ev y):fV ev' x d f=fV ev x d f:=by
 cases x with|none=>rfl|some y=>simp only[fV,h y rfl]
def O8 {β:Type}{ty:TypeId}{x:LV}{lo hi:Option Operand}{ev ev':Operand->LV}{f:LV->Option β}(h1: ∀y,lo=some y->ev' y=ev y)(h2: ∀y,hi=some y->ev' y=ev y):l9 P ty x lo hi ev' f=l9 P ty x lo hi ev f:=by unfold l9;simp only[Bo h1,Bo h2]
def ac7 {ty:TypeId}{x:Operand}{lo hi mx:Option Operand}(ho:o.op= .slice ty x lo hi mx)(ha:Ag h o s t):eC P ρ h o s t μ ν:=by
 have e:=ha x (by simp[ho,Op.operands]);have e1: ∀y,lo=some y->evA h t.fr y=evA h s.fr y:=λy hy=>ha y (by simp[ho,Op.operands,hy]);have e2: ∀y,hi=some y->evA h t.fr y=evA h s.fr y:=λy hy=>ha y (by simp[ho,Op.operands,hy]);simp only[eC,cP,ep,ho,e];cases mx with|none=>simp only[O8 e1 e2,GY,cD]|some m=>rfl
def KC {ty:TypeId}{len:Nat}{parts:Array (Nat×Operand)}(ho:o.op= .buildSlice ty len parts)(hr:h.arr=false)(ha:Ag h o s t):eC P ρ h o s t μ ν:=by have e: ∀b sz,sT b sz (evA h t.fr) 0 parts.toList=sT b sz (evA h s.fr) 0 parts.toList:=λb sz=>y9 λq hq=>ha q.2 (by simp only[ho,Op.operands];simp;exact⟨q.1,by simpa using hq⟩);simp only[eC,cP,ep,ho,tP,e,hr];split<;>simp only[bY,cZ,cD,jv]
def RG {fn:Fn}{first captured:Array Operand}(ho:o.op= .makeFunc fn first captured)(ha:Ag h o s t):eC P ρ h o s t μ ν:=by
 have e:(captured.toList.map λx=>strip1 (evA h t.fr x))=captured.toList.map λx=>strip1 (evA h s.fr x):=xB λx hx=>by rw[ha x (by simp[ho,Op.operands];right;simpa using hx)]
 simp only[eC,cP,ep,ho,e];split
 ·split<;>rfl
 ·rfl
def WH {c:Call}{b:Builtin}(ho:o.op= .call c)(hc:c.callee= .builtin b)(hb:b≠ .copy)(ha:Ag h o s t):eC P ρ h o s t μ ν:=by
 have hm: ∀x,x∈c.args.toList->evA h t.fr x=evA h s.fr x:=λx hx=>ha x (by simp[ho,Op.operands,Call.operands,hc];simpa using hx);simp only[eC,cP,ep,ho,hc];split
 ·split
  ·rename_i x ty hx _;rw[hm x (by rw[hx];simp)];simp only[bY,cD]
  ·rfl
 ·split
  ·rename_i x y ty xt hx _;rw[hm x (by rw[hx];simp),hm y (by rw[hx];simp),DL];rfl
  ·rfl
 ·simp_all
 ·split
  ·rename_i x y hx;rw[hm x (by rw[hx];simp),hm y (by rw[hx];simp)];simp only[bY,cD]
  ·rfl
 ·split
  ·rename_i x y hx;rw[hm x (by rw[hx];simp),hm y (by rw[hx];simp)];simp only[bY,cD]
  ·rfl
 ·rfl
end
end Go.Abs
