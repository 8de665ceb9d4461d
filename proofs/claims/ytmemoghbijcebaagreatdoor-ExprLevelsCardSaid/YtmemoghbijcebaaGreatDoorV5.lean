/-
  The statement ExprLevelsCardSaid, proved; part 6 of 11 of its proof.
-/
import Derived.Test.YtmemoghbijcebaaGreatDoorV4
import Derived.ProofKit
import Derived.OpenShut
import Derived.Deep.Slices
import Derived.ChangeStays
import Derived.ChangeBook
set_option linter.all false
namespace Go.Abs.Ga
open Go Go.ChangeShapes Go.WideShapes Go.WideElems Go.RowKit Go.ChangeAt Go.Deep
inductive Sh where
 |int (k:IntKind)|bool|str|sl (st:Bool) (l:List Sh)
mutual
def Is:Sh->CV->Prop
 | .int k,c=> ∃n,c= .v (.int k n)/\(Lit.int k n).wf=true| .bool,c=> ∃b,c= .v (.bool b)| .str,c=> ∃s:List UInt8,c=CV.str s/\s.length<=maxLen| .sl st l,c=> ∃xs:List CV,c= .sl xs/\xs.length<=maxLen/\ ∀x∈xs,if st then ∃ys,x= .agg ys/\IsL l ys else IsL l [x]
def IsL:List Sh->List CV->Prop
 |[],ys=>ys=[]|s::l,ys=> ∃y r,ys=y::r/\Is s y/\IsL l r
end
def NC: ∀{l:List Sh} {ys:List CV},IsL l ys->ys.length=l.length
 |[],ys,h=>by simp only[IsL]at h;rw[h];rfl|s::l,ys,h=>by simp only[IsL]at h;obtain⟨y,r,rfl,_,h2⟩:=h;simp[NC h2]
def NB: ∀{l m:List Sh} {xs ys:List CV},IsL l xs->IsL m ys->IsL (l++m) (xs++ys)
 |[],m,xs,ys,h1,h2=>by simp only[IsL]at h1;rw[h1];exact h2|s::l,m,xs,ys,h1,h2=>by simp only[IsL]at h1;obtain⟨y,r,rfl,a,b⟩:=h1;exact⟨y,r++ys,rfl,a,NB b h2⟩
def Iu {s:Sh}{c:CV}(h:Is s c):c.cells.length=1/\ ∀ys,c≠ .agg ys:=by
 cases s with
 |int k=>simp only[Is]at h;obtain⟨n,rfl,_⟩:=h;exact⟨rfl,λys e=>by cases e⟩
 |bool=>simp only[Is]at h;obtain⟨n,rfl⟩:=h;exact⟨rfl,λys e=>by cases e⟩
 |str=>simp only[Is]at h;obtain⟨n,rfl,_⟩:=h;exact⟨rfl,λys e=>by cases e⟩
 |sl st l=>simp only[Is]at h;obtain⟨n,rfl,_⟩:=h;exact⟨rfl,λys e=>by cases e⟩
def fieldsOf (P:Program)(f:TypeId->Option (List Sh)):Nat->List Field->Option (List Sh)
 |_,[]=>some []|off,x::r=>match f x.type with
  |some l=>if x.offset=off/\P.cellsOf x.type=l.length then(match fieldsOf P f (off+l.length) r with|some m=>some (l++m)|none=>none)else none|none=>none
def m0 (P:Program):Nat->TypeId->Option (List Sh)
 |0,_=>none|n+1,t=>match P.underlying t with
  |some .bool=>some [.bool]|some (.int k)=>some [.int k]|some .string=>some [.str]
  | some (.slice e) => (match m0 P n e with
   |some []=>none
   | some (x :: l) => if P.cellsOf e = (x :: l).length then (match P.underlying e with
    |some (.struct _)=>some [.sl true (x::l)]
    |_=>if l.length=0 then some [.sl false (x::l)]else none)else none
   |none=>none)
  | some (.struct fs) => (match fieldsOf P (m0 P n) 0 fs.toList with
   |some l=>if P.cellsOf t=l.length then some l else none
   |none=>none)
  |_=>none
section
variable {H:Type}{enc:TypeId×Value->H}{P:Program}{w:World}{base:Nat}{spare:Nat->Bool}{held:Bool}
def VRL_app {G:Gh}: ∀{xs ys:List CV} {cs ds:List Value},VRL G w xs cs->VRL G w ys ds->VRL G w (xs++ys) (cs++ds)
 |[],ys,cs,ds,h1,h2=>by simp only[VRL]at h1;rw[h1];exact h2|x::xs,ys,cs,ds,h1,h2=>by simp only[VRL]at h1;obtain⟨v,r,rfl,a,b⟩:=h1;exact⟨v,r++ds,rfl,a,VRL_app b h2⟩
def Ys {b:Nat}{off:Nat}{v:Value}(h:w.cell? ⟨b,off,none⟩=some v):off<(Gh.top w).O b:=by
 unfold World.cell? at h;simp only[Gh.top];split at h
 ·rename_i c e fz hb;rw[hb];simp only;by_cases hl:off<c.size
  ·exact hl
  ·have h':c[off]? =some v:=by simpa using h
   rw[Array.getElem?_eq_none (by omega)]at h';cases h'
 ·cases h
def CL_of: ∀{xs:List CV} {cs:List Value} {b off:Nat},VRL (Gh.top w) w xs cs->(∀i,i<cs.length->w.cell? ⟨b,off+i,none⟩=cs[i]?)->CL (Gh.top w) w b off xs
 |[],cs,b,off,_,_=>by simp only[CL]|x::xs,cs,b,off,h1,h2=>by simp only[VRL]at h1;obtain⟨v,r,rfl,a,c⟩:=h1;have h0:=h2 0 (by simp);simp only[Nat.add_zero,List.getElem?_cons_zero]at h0;simp only[CL];refine⟨⟨v,h0,Ys h0,a⟩,CL_of c λi hi=> ?_⟩;have:=h2 (i+1) (by simp;omega);simpa[Nat.add_assoc,Nat.add_comm 1 i]using this
def VV: ∀{n:Nat} {a:Addr} {cs:List Value},w.cells? base a n=some cs->cs.length=n/\ ∀i,i<n->w.cell? (a.add i)=cs[i]? :=by intro n a cs h;obtain⟨_,h1,h2⟩:=World.cells?_some h;exact⟨h1,h2⟩
def Yx (a:Addr)(i j:Nat):(a.add i).add j=a.add (i+j):=by
 unfold Addr.add;by_cases hi:i=0
 ·subst hi;by_cases hj:j=0
  ·subst hj;simp
  ·simp[hj]
 ·by_cases hj:j=0
  ·subst hj;simp[hi]
  ·have:i+j≠0:=by omega
   simp only[if_neg hi,if_neg hj,if_neg this,Nat.add_assoc]
def add_lit (b o i:Nat):(⟨b,o,none⟩:Addr).add i=⟨b,o+i,none⟩:=by
 unfold Addr.add;split
 ·rename_i h;subst h;rfl
 ·rfl
def Va {a:Addr}{v:Value}(h:w.cell? a=some v):a.spot=none:=by
 unfold World.cell? at h;split at h
 ·split at h
  ·cases h
  ·rename_i hs;cases hq:a.spot with|none=>rfl|some k=>exact absurd (by rw[hq];rfl) hs
 ·cases h
def XP (enc:TypeId×Value->H)(P:Program)(w:World)(base:Nat)(spare:Nat->Bool)(held:Bool)(f:TypeId->Option (List Sh)):Prop:=
 ∀(fuel:Nat) (t:TypeId) (cs:List Value) (x:DataW H×List MemPlace) (l:List Sh),DataW.trod enc P w base spare held fuel t cs=some x->f t=some l-> ∃xs,IsL l xs/\VRL (Gh.top w) w xs cs
def VRL_len {G:Gh}: ∀{xs:List CV} {cs:List Value},VRL G w xs cs->xs.length=cs.length
 |[],cs,h=>by simp only[VRL]at h;rw[h];rfl|x::xs,cs,h=>by simp only[VRL]at h;obtain⟨v,r,rfl,_,b⟩:=h;simp[VRL_len b]
def BL {f:TypeId->Option (List Sh)}(hf:XP enc P w base spare held f){fuel:Nat}: ∀(fs:List Field) (off:Nat) (cs:List Value) (l:List Sh),fieldsOf P f off fs=some l->cs.length=off+l.length->
 (∀x∈fs,∃y,DataW.trod enc P w base spare held fuel x.type ((cs.drop x.offset).take (P.cellsOf x.type))=some y)-> ∃xs,IsL l xs/\VRL (Gh.top w) w xs (cs.drop off)
 |[],off,cs,l,h,hl,_=>by simp only[fieldsOf]at h;injection h with h;subst h;refine⟨[],rfl,?_⟩;rw[List.drop_eq_nil_of_le (by simp at hl;omega)];rfl
 |x::r,off,cs,l,h,hl,ha=>by
  simp only[fieldsOf]at h;split at h
  ·rename_i l1 h1;split at h
   ·rename_i hc;split at h
    ·rename_i m h2;injection h with h;subst h;obtain⟨y,hy⟩:=ha x (by simp);obtain⟨xs,a1,a2⟩:=hf fuel x.type _ y l1 hy h1;obtain⟨ys,b1,b2⟩:=BL hf r (off+l1.length) cs m h2 (by rw[hl,List.length_append];omega) λz hz=>ha z (List.mem_cons_of_mem _ hz);refine⟨xs++ys,NB a1 b1,?_⟩;rw[hc.1,hc.2]at a2;have:cs.drop off=(cs.drop off).take l1.length++cs.drop (off+l1.length):=by rw[<-List.drop_drop,List.take_append_drop]
     rw[this];exact VRL_app a2 b2
    ·cases h
   ·cases h
  ·cases h
def EL_of {b s:Nat}{st:Bool}{l:List Sh}: ∀(xs:List CV) (off:Nat),(∀x∈xs,if st then ∃ys,x= .agg ys/\IsL l ys else IsL l [x])->
 (∀j x,xs[j]? =some x-> ∃cs,VRL (Gh.top w) w x.cells cs/\cs.length=s/\ ∀i,i<s->w.cell? ⟨b,off+j*s+i,none⟩=cs[i]?)->(st=false->s=1)->EL (Gh.top w) w b s off xs
 |[],off,_,_,_=>by simp only[EL]|x::r,off,h,hc,hs=>by
  obtain⟨cs,c1,c2,c3⟩:=hc 0 x rfl
  have hr := EL_of (b := b) (s := s) (st := st) (l := l) r (off + s) (λy hy => h y (List.mem_cons_of_mem _ hy)) (λj y hy => by
   obtain⟨ds,d1,d2,d3⟩:=hc (j+1) y (by simpa using hy);refine⟨ds,d1,d2,λi hi=> ?_⟩;have:=d3 i hi;rw[Nat.add_mul,Nat.one_mul]at this;rw[<-this];congr 2
   omega) hs
  have h0:=h x (by simp);simp only[Nat.zero_mul,Nat.add_zero]at c3;cases st with
  |true=>simp only[if_true]at h0;obtain⟨ys,rfl,_⟩:=h0;simp only[EL];refine⟨CL_of (cs:=cs) c1 (λi hi=>c3 i (by omega)),hr⟩
  |false=>
   simp only[Bool.false_eq_true,if_false]at h0;have hp: ∀ys,x≠ .agg ys:=by
    match l,h0 with
    |s::l',h0=>simp only[IsL]at h0;obtain⟨y,r',e,h1,_⟩:=h0;injection e with e _;subst e;exact(Iu h1).2
    |[],h0=>simp only[IsL]at h0;cases h0
   have hx:x.cells=[x]:=by cases x<;>first|rfl|exact absurd rfl (hp _)
   rw[hx]at c1;simp only[VRL]at c1;obtain⟨v,r',rfl,c1,rfl⟩:=c1;have h1:=c3 0 (by rw[hs rfl];omega);simp only[Nat.add_zero,List.getElem?_cons_zero]at h1;cases x<;>first|exact absurd rfl (hp _)|(simp only[EL];exact⟨⟨v,h1,Ys h1,c1⟩,hr⟩)
def Rl: ∀n,XP enc P w base spare held (m0 P n):=by
 intro n
 induction n with
 |zero=>intro fuel t cs x l _ h;simp[m0]at h|succ n ih=>
  intro fuel t cs x l ht h;unfold m0 at h;split at h
  ·rename_i hu;injection h with h;subst h;obtain⟨b,rfl,_⟩:=DataW.trod_bool hu ht;exact⟨[.v (.bool b)],⟨_,_,rfl,⟨b,rfl⟩,rfl⟩,⟨_,_,rfl,rfl,rfl⟩⟩
  ·rename_i k hu;injection h with h;subst h;obtain⟨m,rfl,_,hw⟩:=DataW.trod_int hu ht;exact⟨[.v (.int k m)],⟨_,_,rfl,⟨m,rfl,hw⟩,rfl⟩,⟨_,_,rfl,rfl,rfl⟩⟩
  ·rename_i hu;injection h with h;subst h;obtain⟨s,rfl,_,hs⟩:=DataW.trod_string hu ht;refine⟨[CV.str s.data.toList],⟨_,_,rfl,⟨s.data.toList,rfl,hs⟩,rfl⟩,⟨_,_,rfl,?_,rfl⟩⟩;cases s;rfl
  ·rename_i e hu;have key: ∀(st:Bool) (sh:List Sh),l=[.sl st sh]->m0 P n e=some sh->P.cellsOf e=sh.length->sh≠[]->(st=false->sh.length=1)->(st=true-> ∃fs,P.underlying e=some (.struct fs))-> ∃xs,IsL l xs/\VRL (Gh.top w) w xs cs:=by
    intro st sh hl h1 h2 h3 h4 _;subst hl;rcases open_slice hu ht with⟨rfl,_⟩|⟨a,len,cap,m,k,D,Pl,rfl,hb,hle,hm,hmm,_,hx⟩
    ·exact⟨[.sl []],⟨_,_,rfl,⟨[],rfl,by simp,λx hx=>absurd hx (by simp)⟩,rfl⟩,⟨_,_,rfl,⟨none,0,0,rfl,rfl,Nat.le_refl _,Or.inl rfl⟩,rfl⟩⟩
    ·have hlm:len<=m:=by rw[hmm];split<;>omega
     have hone: ∀i,i<len-> ∃x:CV,(if st then ∃ys,x= .agg ys/\IsL sh ys else IsL sh [x])/\ ∃ds,VRL (Gh.top w) w x.cells ds/\ds.length=sh.length/\ ∀j,j<sh.length->w.cell? (a.add (i*sh.length+j))=ds[j]? :=by
      intro i hi;obtain⟨cs',c1,c2⟩:=hx i (by omega);obtain⟨xs,x1,x2⟩:=ih k e cs' _ sh c2 h1;obtain⟨d1,d2⟩:=VV c1;rw[h2]at d1 d2;have d2': ∀j,j<sh.length->w.cell? (a.add (i*sh.length+j))=cs'[j]? :=λj hj=>by rw[<-d2 j hj,Yx]
      cases st with
      |true=>exact⟨.agg xs,⟨xs,rfl,x1⟩,cs',x2,d1,d2'⟩|false=>
       have hl1:=NC x1;rw[h4 rfl]at hl1;obtain⟨y,rfl⟩:=List.length_eq_one_iff.1 hl1;refine⟨y,x1,cs',?_,d1,d2'⟩;have hp: ∀ys,y≠ .agg ys:=by
        match sh,x1 with
        |s::l',x1=>simp only[IsL]at x1;obtain⟨y',r',e',z1,_⟩:=x1;injection e' with e' _;subst e';exact(Iu z1).2
        |[],x1=>simp only[IsL]at x1;cases x1
       have hy:y.cells=[y]:=by cases y<;>first|rfl|exact absurd rfl (hp _)
       rw[hy];exact x2
     obtain⟨X,hX⟩:=choose_lt hone;have hget: ∀j x,((List.range len).map X)[j]? =some x->j<len/\x=X j:=by
      intro j x hj;rw[List.getElem?_map]at hj;cases hq:(List.range len)[j]? with
      |none=>rw[hq]at hj;cases hj|some z=>rw[hq]at hj;obtain⟨h5,h6⟩:=List.getElem?_eq_some_iff.1 hq;simp at h5 h6 hj;subst h6;exact⟨h5,hj.symm⟩
     refine⟨[.sl ((List.range len).map X)],⟨_,_,rfl,⟨_,rfl,by simp;omega,λx hxm=> ?_⟩,rfl⟩,⟨_,_,rfl,⟨some a,len,cap,rfl,by simp,hle,?_⟩,rfl⟩⟩
     ·obtain⟨j,hj⟩:=List.getElem?_of_mem hxm;obtain⟨h5,rfl⟩:=hget j x hj;exact(hX j h5).1
     ·by_cases h0:len=0
      ·exact Or.inl h0
      ·right;have hpos:0<sh.length:=List.length_pos_iff.2 h3;have hsp:a.spot=none:=by obtain⟨_,ds,e1,e2,e3⟩:=hX 0 (by omega);have:=e3 0 hpos;rw[List.getElem?_eq_getElem (by omega)]at this;exact Va (by simpa[Addr.add]using this)
       have ha:a=⟨a.block,a.off,none⟩:=by cases a;simp at hsp;simp[hsp]
       refine⟨a.block,a.off,sh.length,by rw[<-ha],λx hxm=> ?_,?_⟩
       ·obtain⟨j,hj⟩:=List.getElem?_of_mem hxm;obtain⟨h5,rfl⟩:=hget j x hj;obtain⟨_,ds,e1,e2,_⟩:=hX j h5;rw[VRL_len e1,e2]
       ·refine EL_of (st:=st) (l:=sh) _ _ (λx hxm=> ?_) (λj x hj=> ?_) (λe=>h4 e)
        ·obtain⟨j,hj⟩:=List.getElem?_of_mem hxm;obtain⟨h5,rfl⟩:=hget j x hj;exact(hX j h5).1
        ·obtain⟨h5,rfl⟩:=hget j x hj;obtain⟨_,ds,e1,e2,e3⟩:=hX j h5;refine⟨ds,e1,e2,λi hi=> ?_⟩;rw[<-e3 i hi,ha,add_lit,Nat.add_assoc]
   split at h
   ·cases h
   ·rename_i y l' h1;split at h
    ·rename_i h2;split at h
     ·rename_i fs h3;injection h with h;exact key true _ h.symm h1 h2 (by simp) (λe=>by cases e) (λ_=>⟨fs,h3⟩)
     ·split at h
      ·rename_i h4;injection h with h;exact key false _ h.symm h1 h2 (by simp) (λ_=>by simp only[List.length_cons];omega) (λe=>by cases e)
      ·cases h
    ·cases h
   ·cases h
  ·rename_i fs hu;split at h
   ·rename_i l' h1;split at h
    ·rename_i h2;injection h with h;subst h;obtain⟨xs,m,_,_,h3,h4,h5⟩:=DataW.trod_struct hu ht;have:=BL ih (fuel:=m) fs.toList 0 cs l' h1 (by rw[h3,h2,Nat.zero_add]) λf hf=>by
      obtain⟨i,hi⟩:=List.getElem?_of_mem hf;have hi':fs[i]? =some f:=by rw[<-Array.getElem?_toList];exact hi
      have hlt:i<xs.length:=by rw[h4];exact(Array.getElem?_eq_some_iff.1 hi').1
      refine⟨xs[i],?_⟩;rw[h5 i f hi',List.getElem?_eq_getElem hlt]
     rw[List.drop_zero]at this;exact this
    ·cases h
   ·cases h
  ·cases h
def mf (P:Program)(t:TypeId):Bool:=match P.underlying t with|some (.struct _)=>true|_=>false
def open_arg {n:Nat}{t:TypeId}{v:Value}{l:List Sh}{d:DataW H}{ps:List MemPlace}{r:Reach}{b0:Nat}(hl:m0 P n t=some l)(hval:Value.okWide P w r b0 t v)(hd:DataW.Trod enc P w base spare held t v d ps):
 ∃c,VR (Gh.top w) w c v/\(if mf P t=true then ∃ys,c= .agg ys/\IsL l ys else IsL l [c]):=by
 obtain⟨fuel,hf⟩:=hd;obtain⟨xs,h1,h2⟩:=Rl n fuel t _ _ l hf hl;by_cases hs:mf P t=true
 ·simp only[hs,if_true];obtain⟨fs,hfs⟩: ∃fs,P.underlying t=some (.struct fs):=by
   unfold mf at hs;split at hs
   ·rename_i fs h;exact⟨fs,h⟩
   ·cases hs
  obtain⟨cs,rfl,_⟩:=okWide_struct hfs hval;exact⟨.agg xs,⟨cs,rfl,h2⟩,xs,rfl,h1⟩
 ·simp only[hs,if_false,Bool.false_eq_true];have hv:v.cells.toList=[v]:=by
   cases n with
   |zero=>simp[m0]at hl|succ n=>
    unfold m0 at hl;split at hl
    ·rename_i hu;obtain⟨_,rfl⟩:=okWide_bool hu hval;rfl
    ·rename_i k hu;obtain⟨_,rfl⟩:=okWide_int hu hval;rfl
    ·rename_i hu;obtain⟨_,rfl⟩:=okWide_string hu hval;rfl
    ·rename_i e hu;obtain⟨_,_,_,rfl⟩:=okWide_slice hu hval;rfl
    ·rename_i fs hu;exact absurd (by unfold mf;rw[hu]) hs
    ·cases hl
  rw[hv]at h2;have hlen:=VRL_len h2;obtain⟨c,rfl⟩:=List.length_eq_one_iff.1 hlen;simp only[VRL]at h2;obtain⟨v',r',e,h3,_⟩:=h2;injection e with e _;subst e;exact⟨c,h3,h1⟩
def UZ {W W':World}(h:Fc W W'){p:MemPlace}(hp:p.block<W.heap.size):W.sameAt W' p:=by
 cases p with|cell b o=>exact World.cell?_of_block (w:=W) (h.2.2.2 b hp)|map b=>exact h.2.2.2 b hp
def Et (P:Program)(ts:List TypeId):Bool:=ts.all λt=>P.readableRec t&&decide (t<P.types.size)
def GA (hl:laidOutB P=true){W W':World}(hk:Fc W W'){sp:Nat->Bool}: ∀{ts:List TypeId} {vs:List Value} {ds:List (DataW H)} {ps:List MemPlace},Et P ts=true->
 DataW.TrodAll enc P W 0 (λ_=>true) true ts vs ds ps->(∀p∈ps,p.block<W.heap.size)->(∀p∈ps,sp p.block=true)->DataW.TrodAll enc P W' 0 sp true ts vs ds ps
 |[],[],[],ps,_,h,_,_=>h|t::ts,v::vs,d::ds,ps,hr,h,hlt,hsp=>by simp only[DataW.TrodAll]at h |-;obtain⟨p,q,⟨fuel,h1⟩,h2,rfl⟩:=h;simp only[Et,List.all_cons,Bool.and_eq_true,decide_eq_true_eq]at hr;refine⟨p,q,⟨fuel,DataW.trod_stays (kids_book hl hr.1.1) (book_sized hr.1.1) (λh=>by cases h) ⟨hr.1.2,book_self t⟩ h1 (λx hx=>UZ hk (hlt x (List.mem_append_left _ hx))) (λx hx=>hsp x (List.mem_append_left _ hx))⟩,?_,rfl⟩;exact GA hl hk (by simpa[Et]using hr.2) h2 (λx hx=>hlt x (List.mem_append_right _ hx)) (λx hx=>hsp x (List.mem_append_right _ hx))
 |[],_::_,_,_,_,h,_,_=>h.elim|[],[],_::_,_,_,h,_,_=>h.elim|_::_,[],_,_,_,h,_,_=>h.elim|_::_,_::_,[],_,_,h,_,_=>h.elim
end
def post_true {H:Type}{enc:TypeId×Value->H}{P:Program}{f:Func}{s:ChangeSpec}{tb:TypeId}(hl:laidOutB P=true)(hr:Et P f.params.toList=true)(hb:P.underlying tb=some .bool)(hf:f.resultTypes= #[tb])
 (hvs:s.vars=[]) {W W':World} {args:Array Value} {ds gs:List (DataW H)} {before:List MemPlace}
 (hW:DataW.Whole enc P f.params.toList s.vars false W args.toList ds gs before) (hs1:(s.fn H ds).results=[.lit (.bool true)]) (hs2:(s.fn H ds).args=ds) (hs3:(s.fn H ds).vars=[]) (hk:Fc W W'):
 s.post enc P f false true false false W args (.bool true) W':=by
 have hW':=hW;obtain⟨p,q,hA,hV,rfl,_,_⟩:=hW;have hlt:=λx hx=>hW'.lt x hx;rw[hvs]at hV;obtain⟨rfl,rfl⟩:=trodVars_none hV;simp only[List.append_nil]at hW' hlt;refine UQ (pa:=p) (pv:=[]) hW' ?_ ?_ ?_ (by simp) hk ?_
 ·intro b sp hd;simp only[List.append_nil,hs1,hf];exact trodAll_cons_mk (shut_bool hb _) trodAll_mk0
 ·intro sp hsp;simp only[List.append_nil,hs2];exact GA hl hk hr hA hlt hsp
 ·intro sp hsp;simp only[List.append_nil,hs3,hvs];rfl
 ·exact ok_one hf rfl (okWide_bool_mk hb _)
end Go.Abs.Ga
set_option maxRecDepth 100000
namespace Go.Abs
open Go Go.Proofs
section
variable {α β:Type}
theorem bA {a:α}{k:α->Option β}:opt (some a) k=k a:=rfl
theorem cL {k:Option β}:bB true k=k:=rfl
def dH {k:IntKind}{n:Int}:bI k (LV.int k n)=some n:=by simp[bI]
theorem dw {s:List UInt8}:cf (LV.str s)=some s:=rfl
theorem da {b:Bool}:ce (LV.bool b)=some b:=rfl
theorem d9 {l:List LV}:b9 (.ltup l)=some l:=rfl
theorem dW {α:Type}{a:α}{r:List α}:bC (a::r)=some (a,r):=rfl
theorem u1 {l:List CV}:cR (.cv (.sl l))=some l:=rfl
theorem rY {l:List CV}:cR (.osl l)=some l:=rfl
theorem wS {l:List CV}:gv (.osl l)=some l:=rfl
theorem cT {α:Type}:bS ([]:List α)=some ():=rfl
theorem bL {v:LV}{μ:Mu}{k:LV->Mu->Option β}{p:CV->Mu->Option β}:callK (some (.ret v μ)) k p=k v μ:=rfl
theorem d5 {v:CV}{μ:Mu}{k:LV->Mu->Option β}{p:CV->Mu->Option β}:callK (some (.panic v μ)) k p=p v μ:=rfl
def bU:=And.intro @bL (And.intro @d9 (And.intro @bA (And.intro @dW (And.intro @dH (And.intro @dw (And.intro @da (And.intro @cT (And.intro @cL (And.intro @bY.{1} (And.intro @bW.{1} (And.intro @db (And.intro @dF (And.intro @u1 (And.intro @rY (@wS)))))))))))))))
def gA {x:Int}(h0: -9223372036854775808<=x)(h1:x<9223372036854775808):IntKind.wrap .i64 x=x:=by have e1:(2^IntKind.i64.bits:Int)=18446744073709551616:=co;have e2:(2^(IntKind.i64.bits-1):Int)=9223372036854775808:=co;have e3:IntKind.i64.signed=true:=rfl;unfold IntKind.wrap;simp only[e1,e2,e3,lI,dn];split<;>omega
def qW {l:List UInt8}{i:Nat}:km l (i:Int)=l[i]? :=by simp[km]
def mt {l:List CV}{i:Nat}:dr l (i:Int)=l[i]? :=by simp[dr]
def jW {a:LV}{r:List LV}:cD E.P 9 (.cells (a::r)) 0=some (strip a):=bx
def CS {a b:LV}{r:List LV}:cD E.P 4 (.cells (a::b::r)) 1=some (strip b):=bx
theorem fX {s:List UInt8}:strip (LV.str s)=LV.str s:=rfl
theorem xw {s:Bool}:strip (LV.bool s)=LV.bool s:=rfl
def fQ: ∀(l:List UInt8),de (dg l)=some l
 |[]=>rfl|b::r=>by have ih:=fQ r;have e:dg (b::r)=CV.int .u8 (b.toNat:Int)::dg r:=rfl;rw[e];simp only[de];rw[ih];have h:=b.toNat_lt;have h2:(decide ((0:Int)<=(b.toNat:Int))&&decide ((b.toNat:Int)<256))=true:=cr;rw[h2];simp[opt]
def uo (a b:List UInt8):dg (a++b)=dg a++dg b:=by simp[dg]
def p8 (a:List UInt8):(dg a).length=a.length:=by simp[dg]
def nw: ∀(l:List UInt8),ee 1 (dg l)=true
 |[]=>rfl|b::r=>by have e:dg (b::r)=CV.int .u8 (b.toNat:Int)::dg r:=rfl;rw[e];simp only[ee];have:ga 1 (CV.int .u8 (b.toNat:Int))=true:=rfl;rw[this];exact nw r
def Bk {a b:List UInt8}(h:a.length+b.length<=1099511627776):ef 1 (dg a) (dg b)=true:=by unfold ef;rw[nw,nw,p8,p8];simp[small,h]
def j0 (l:List (List UInt8)):List CV:=l.map CV.str
theorem Ty {s:List UInt8}:cf (LV.cv (CV.str s))=some s:=rfl
def fC {n:Nat}(h:n<=1099511627776):small n=true:=by simp[small,h]
def gy {f:FuncId}{g:g8}{args:List LV}{μ:Mu}{out:Out}(h:E.prim f=some g)(hg:g args μ=some out):(ev E).call f args μ=some out:=by refine b8 ?_;unfold bN;rw[h];exact hg
def Jy {s:List UInt8}{μ:Mu}(h:s.length<=1000000):(ev E).call 136 [LV.str s] μ=some (.ret (LV.str (Lib.toUpperD s)) μ):=by
 refine gy (g:=xf) bx ?_;have:iX s=true:=by simp[iX,h]
 simp only[xf,AI,dW,bA,cT,dw,this,cL]
def TT {s:List UInt8}{μ:Mu}{c:UInt8}(hc:c.toNat<128):(ev E).call 225 [LV.str s,LV.str [c]] μ=some (.ret (LV.str (Lib.trimLeftB s c)) μ):=by
 refine gy (g:=ub) bx ?_;have:decide (c.toNat<128)=true:=by simp[hc]
 simp only[ub,nB,dW,bA,cT,dw,FK,this,cL]
def TU {s:List UInt8}{μ:Mu}{c:UInt8}(hc:c.toNat<128)(h:s.length<=1000000):(ev E).call 226 [LV.str s,LV.str [c]] μ=some (.ret (LV.str (Lib.trimRightB s c)) μ):=by
 refine gy (g:=rM) bx ?_;have:(decide (c.toNat<128)&&iX s)=true:=by simp[hc,iX,h]
 simp only[rM,nB,dW,bA,cT,dw,FK,this,cL]
def DW {s:List UInt8}{μ:Mu}(h:s.length<=1000000):(ev E).call 133 [LV.str s] μ=some (.ret (Dp 201 s) μ):=by
 refine gy (g:=HY 201) bx ?_;have:iX s=true:=by simp[iX,h]
 simp only[HY,AI,dW,bA,cT,dw,this,cL]
def TO {n:Int}{μ:Mu}(h0: -9223372036854775808<=n)(h1:n<=9223372036854775807):(ev E).call 199 [bv n] μ=some (.ret (LV.str (Lib.itoa n)) μ):=by
 refine gy (g:=El) bx ?_;have:(decide (-9223372036854775808<=n)&&decide (n<=9223372036854775807))=true:=by simp[h0,h1]
 simp only[El,dW,bA,cT,dH,this,cL]
def aaE {s p:List UInt8}{μ:Mu}:(ev E).call 211 [LV.str s,LV.str p] μ=some (.ret (LV.str (Lib.trimPrefix s p)) μ):=by refine gy (g:=qi) bx ?_;simp only[qi,nB,dW,bA,cT,dw]
def aaF {s p:List UInt8}{μ:Mu}:(ev E).call 214 [LV.str s,LV.str p] μ=some (.ret (LV.bool (Lib.hasPrefix s p)) μ):=by refine gy (g:=rL) bx ?_;simp only[rL,nB,dW,bA,cT,dw]
def TR {s p:List UInt8}{μ:Mu}(h:s.length<=1000000):(ev E).call 213 [LV.str s,LV.str p] μ=some (.ret (bv (Lib.index s p)) μ):=by
 refine gy (g:=Ek) bx ?_;have:iX s=true:=by simp[iX,h]
 simp only[Ek,nB,dW,bA,cT,dw,this,cL]
def aaH {s old new:List UInt8}{μ:Mu}(h:s.length<=1000000)(h2:new.length<=1000000)(h1:1<=old.length):(ev E).call 224 [LV.str s,LV.str old,LV.str new] μ=some (.ret (LV.str (Lib.replaceAll s old new)) μ):=by
 refine gy (g:=qh) bx ?_;have:(iX s&&iX new&&decide (1<=old.length))=true:=by simp[iX,h,h1,h2]
 simp only[qh,HZ,dW,bA,cT,dw,this,cL]
end
end Go.Abs
