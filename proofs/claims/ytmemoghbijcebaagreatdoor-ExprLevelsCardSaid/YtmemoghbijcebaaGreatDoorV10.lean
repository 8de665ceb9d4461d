/-
  The statement ExprLevelsCardSaid, proved; part 11 of 11 of its proof.
  An argument that is a byte.
  What ExprLevels's function comes to: the closed facts of its row.
  ExprLevels answers true for every argument, and its arguments read as they did.
-/
import Derived.RangeFuncBox
import Derived.RangeFuncLeaves
import Derived.Shelf.Abstract
import Derived.WalkKit
import Derived.OwnWalkIn
import Derived.TacticsInMore
import Derived.LoopNIn
import Derived.LoopIn
import Derived.Test.YtmemoghbijcebaaGreatDoorProg
import Derived.Test.YtmemoghbijcebaaGreatDoorV4
import Derived.Test.YtmemoghbijcebaaGreatDoorV9
import Derived.Test.YtmemoghbijcebaaGreatDoorV7
import Derived.Test.YtmemoghbijcebaaGreatDoorRows
import Derived.JoinedCond
import Derived.Test.YtmemoghbijcebaaGreatDoorCards
import Derived.Test.YtmemoghbijcebaaGreatDoorTie
import Derived.OpenShut
set_option linter.all false
namespace Go.Proofs
open Go.RowKit Go.Shelf
attribute [local go_sem] Oper.semAt_some
def Tog.upto {α:Type}(f:Nat->α)(k:Nat):List α:=(List.range k).map f
def Tog.upto_succ {α:Type}(f:Nat->α)(k:Nat):Tog.upto f (k+1)=Tog.upto f k++[f k]:=by simp[Tog.upto,List.range_succ]
def Tog.upto_length {α:Type}(f:Nat->α)(k:Nat):(Tog.upto f k).length=k:=by simp[Tog.upto]
def Tog.bk (zs:List Int)(k:Nat):Int×Int:=((zs.length:Int) -1-k,(zs[zs.length-1-k]?).getD 0)
def Tog.Kp (n₀ Bs:Nat)(W W':World):Prop:=Below n₀ W W'/\W'.cell? ⟨Bs,0,none⟩=W.cell? ⟨Bs,0,none⟩
def Tog.Kp.refl (n₀ Bs:Nat)(W:World):Tog.Kp n₀ Bs W W:=⟨Below.refl _ _,rfl⟩
def Tog.Kp.trans {n₀ Bs:Nat}{A B C:World}(h:Tog.Kp n₀ Bs A B)(k:Tog.Kp n₀ Bs B C):Tog.Kp n₀ Bs A C:=⟨h.1.trans k.1,k.2.trans h.2⟩
def Tog.Kp.put {n₀ Bs:Nat}{w:World}(hn:n₀<=w.heap.size)(hB:Bs<w.heap.size)(W:World)(l:Nat)(o o':Obj)(hl:w.heap.size<=l)(h:W.heap[l]? =some o)(h1:o.isCells=false)(h2:o.isWalk=false):Tog.Kp n₀ Bs W (W.putObj l o'):=by refine⟨belowK_b hn W l o o' hl h h1 h2,?_⟩;unfold World.cell?;rw[World.putObj_heap_other (by show Bs≠l;omega)]
set_option maxRecDepth 100000 in
set_option maxHeartbeats 4000000 in
def Tog.back1_in (F:Fence)(n:Nat)(h7:F.fn 166)(hro:F.round=none)(hn:1<=n)(l Bs n₀ b off cap:Nat)(zs:List Int)(hreach:zs.length*8<=140737488351232)(hb:b<n₀)(J Jx:List (Int×Int)->World->Prop)
 (hY : ∀ pre x W, J pre W -> pre.length < zs.length -> YieldAt F (n - 1) Tryz.prog l #[.int .i64 x.1, .int .i64 x.2] W λe W' =>
  (e= .returned (.bool true)/\J (pre++[x]) W'/\Tog.Kp n₀ Bs W W')\/(e= .returned (.bool false)/\Jx (pre++[x]) W'))
 (W:World) (hBs:W.cell? ⟨Bs,0,none⟩=some (.slice (some ⟨b,off,none⟩) zs.length cap)) (hc: ∀j,j<zs.length->W.cell? ⟨b,off+j,none⟩=some (.int .i64 (zs[j]?.getD 0))) (h0:J [] W):
 CallsIn F n Tryz.prog 166 #[.func (.yield l) #[] #[],.pointer (some ⟨Bs,0,none⟩)] W λe W'=>(∃v,e= .returned v)/\
  ((∃ys,ys=Tog.upto (Tog.bk zs) zs.length/\J ys W')\/(∃pre,(∃k,k<=zs.length/\pre=Tog.upto (Tog.bk zs) k)/\Jx pre W')):=by
 refine callsIn_of_wp Tryz.func166 rfl h7 ?_ hro;simp only[Tryz.ntmps166,List.size_toArray,List.length_cons,List.length_nil,Nat.reduceAdd,Nat.reduceSub,Array.replicate_succ,Array.replicate_zero,List.push_toArray,List.append_toArray,List.nil_append,List.cons_append]
 gi_wp2
 gi_loopw [3] (λi wr=> ∃k:Nat,k<=zs.length/\i= .int .i64 ((zs.length:Int) -1-k)/\J (Tog.upto (Tog.bk zs) k) wr/\Tog.Kp n₀ Bs W wr)
  (λi _=>(intOf i+1).toNat)
 case atStart=>exact⟨0,Nat.zero_le _,by simp,h0,Tog.Kp.refl _ _ _⟩
 case round=>
  obtain⟨k,hk,rfl,hJs,hnx⟩:=hrel;have hbx:=hnx.2.trans hBs;have hcx: ∀j,j<zs.length->wr.cell? ⟨b,off+j,none⟩=some (.int .i64 (zs[j]?.getD 0)):=λj h=>(hnx.1.cell (p:=⟨b,off+j,none⟩) hb).trans (hc j h);by_cases hlt:k<zs.length
  ·obtain⟨m,hm1,hm2⟩: ∃m:Nat,m+k+1<=zs.length/\zs.length<=m+k+1:=⟨zs.length-1-k,by omega,by omega⟩;have hmz:m<zs.length:=by omega
   have e1:((zs.length:Int) -1-k)=(m:Int):=by omega
   have e2:Tog.bk zs k=((m:Int),(zs[m]?).getD 0):=by unfold Tog.bk;rw[e1,show zs.length-1-k=m by omega]
   rw[e1];clear e1;obtain⟨fn,tmps,assign,body,hy,hR⟩:=hY _ (Tog.bk zs k) wr hJs (by rw[Tog.upto_length];exact hlt);rw[e2]at hy;clear e2;have hcx':=hcx m hmz;obtain⟨y,hyv⟩: ∃y,y=(zs[m]?).getD 0:=⟨_,rfl⟩;rw[<-hyv]at hy hcx';clear hyv hcx;dsimp only at hy
   gi_wp2
   refine hR.mono ?_;rintro e W3 (⟨rfl,hJ3,hk3⟩|⟨rfl,hJx3⟩)
   ·gi_wp2
    go_roundw
    case rel=>exact⟨k+1,by omega,by congr 1;omega,by rw[Tog.upto_succ];exact hJ3,hnx.trans hk3⟩
    case measure=>first|(simp[intOf];done)|(simp[intOf];omega)
   ·gi_wp2
    refine bodyPost_ret (results_none rfl _ _ _) rfl ?_;exact⟨⟨_,rfl⟩,.inr ⟨_,⟨k+1,by omega,(Tog.upto_succ _ _).symm⟩,hJx3⟩⟩
  ·obtain rfl:k=zs.length:=by omega
   have e1:((zs.length:Int) -1-(zs.length:Nat))= -1:=by omega
   rw[e1]
   gi_wp2
   go_end0
   exact⟨⟨_,rfl⟩,.inl ⟨_,rfl,hJs⟩⟩
set_option maxRecDepth 100000 in
set_option maxHeartbeats 1000000 in
def Tog.back1_nil_in (F:Fence)(n:Nat)(h8:F.fn 166)(hro:F.round=none)(l Bs:Nat)(a:Option Addr)(cap:Nat)(J:List (Int×Int)->World->Prop)(W:World)(hBs:W.cell? ⟨Bs,0,none⟩=some (.slice a 0 cap))(h0:J [] W):
 CallsIn F n Tryz.prog 166 #[.func (.yield l) #[] #[],.pointer (some ⟨Bs,0,none⟩)] W λe W'=>(∃v,e= .returned v)/\J [] W':=by
 refine callsIn_of_wp Tryz.func166 rfl h8 ?_ hro;simp only[Tryz.ntmps166,List.size_toArray,List.length_cons,List.length_nil,Nat.reduceAdd,Nat.reduceSub,Array.replicate_succ,Array.replicate_zero,List.push_toArray,List.append_toArray,List.nil_append,List.cons_append]
 gi_wp2
 gi_loopw [3] (λi wr=>i= .int .i64 (-1)/\J [] wr) (λ_ _=>0)
 case atStart=>exact⟨rfl,h0⟩
 case round=>
  obtain⟨rfl,hJs⟩:=hrel
  gi_wp2
  go_end0
  exact⟨⟨_,rfl⟩,hJs⟩
set_option maxHeartbeats 1000000 in
def Tog.back_in (F:Fence)(n:Nat)(h6:F.fn 150)(hro:F.round=none)(a:Option Addr)(len cap:Nat)(w:World):
 CallsIn F n Tryz.prog 150 #[.slice a len cap] w λe w'=>e= .returned (.func (.func 166) #[] #[.pointer (some ⟨w.heap.size,0,none⟩)])/\w'=w.alloc (.cells #[.slice a len cap] 55):=by
 refine callsIn_of_wp Tryz.func150 rfl h6 ?_ hro;simp only[Tryz.ntmps150,List.size_toArray,List.length_cons,List.length_nil,Nat.reduceAdd,Nat.reduceSub,Array.replicate_succ,Array.replicate_zero,List.push_toArray,List.append_toArray,List.nil_append,List.cons_append]
 gi_wp2
 go_ret
 exact⟨rfl,rfl⟩
def Tog.Ints (n₀:Nat)(W:World)(sv:Value)(zs:List Int):Prop:=
 ((∃a cap,sv= .slice a 0 cap)/\zs=[])\/ ∃b off cap,sv= .slice (some ⟨b,off,none⟩) zs.length cap/\b<n₀/\ ∀j,j<zs.length->W.cell? ⟨b,off+j,none⟩=some (.int .i64 (zs[j]?.getD 0))
def Tog.Ints.below {n₀:Nat}{A B:World}(h:Below n₀ A B){sv:Value}{zs:List Int}:Tog.Ints n₀ A sv zs->Tog.Ints n₀ B sv zs
 | .inl e=> .inl e| .inr ⟨b,off,cap,e,hb,hc⟩=> .inr ⟨b,off,cap,e,hb,λj hj=>(h.cell (p:=⟨b,off+j,none⟩) hb).trans (hc j hj)⟩
def Tog.back_stops (F:Fence)(n:Nat)(h8:F.fn 166)(hro:F.round=none)(hn:1<=n)(Bs n₀:Nat)(sv:Value)(zs:List Int)(hreach:zs.length*8<=140737488351232)(w:World)(hBs:Bs<w.heap.size)(hn₀:n₀<=w.heap.size)
 (hc:w.cell? ⟨Bs,0,none⟩=some sv) (hI:Tog.Ints n₀ w sv zs):
 SeqStopsK F n Tryz.prog 166 #[.pointer (some ⟨Bs,0,none⟩)] (λx:Int×Int=> #[Value.int .i64 x.1,Value.int .i64 x.2]) (Tog.Kp n₀ Bs) (λys=>ys=Tog.upto (Tog.bk zs) zs.length)
  (λpre=> ∃k,k<=zs.length/\pre=Tog.upto (Tog.bk zs) k) zs.length w:=λl J Jx W hW _ _ hY h0=>by
 have hc':=(hW.cell (p:=⟨Bs,0,none⟩) hBs).trans hc;rcases hI.below (hW.mono hn₀)with⟨⟨a,cap,rfl⟩,rfl⟩|⟨b,off,cap,rfl,hb,hcs⟩
 ·exact(Tog.back1_nil_in F n h8 hro l Bs a cap J W hc' h0).mono λe W' ⟨he,hj⟩=>⟨he,.inl ⟨_,rfl,hj⟩⟩
 ·exact Tog.back1_in F n h8 hro hn l Bs n₀ b off cap zs hreach hb J Jx hY W hc' hcs h0
def Tog.st_snoc (f l:List Int)(a nx:Int):Go.Abs.togSt f (l++[a]) nx=(Go.Abs.togSt f l nx).bind λx=>Go.Abs.togStep f x a:=by simp[Go.Abs.togSt,List.foldlM_append]
def Tog.st_none (f l r:List Int)(nx:Int)(h:Go.Abs.togSt f l nx=none):Go.Abs.togSt f (l++r) nx=none:=by simp only[Go.Abs.togSt,List.foldlM_append]at h |-;rw[h];rfl
def Tog.upto_rev (zs:List Int):(Tog.upto (Tog.bk zs) zs.length).map Prod.snd=zs.reverse:=by
 apply List.ext_getElem
 ·simp[Tog.upto]
 ·intro i h1 h2;have hi:i<zs.length:=by simpa[Tog.upto]using h1
  have h3:zs.length-1-i<zs.length:=by omega
  simp[Tog.upto,Tog.bk,h3]
def Tog.upto_pre (zs:List Int){k:Nat}(hk:k<=zs.length): ∃r,zs.reverse=(Tog.upto (Tog.bk zs) k).map Prod.snd++r:=by
 refine⟨zs.reverse.drop k,?_⟩;rw[<-Tog.upto_rev];have:(Tog.upto (Tog.bk zs) k)=(Tog.upto (Tog.bk zs) zs.length).take k:=by simp only[Tog.upto,<-List.map_take,List.take_range,Nat.min_eq_left hk]
 rw[this,List.map_take,List.take_append_drop]
def Tog.ok (f:List Int):Prop:= ∀v∈f,0<=v/\v<=f.length
def Tog.step_ok {f:List Int}(hf:Tog.ok f){nx a v:Int}(h0:0<=nx)(h1:nx<=f.length)(h:Go.Abs.togStep f nx a=some v):0<=v/\v<=f.length:=by
 unfold Go.Abs.togStep at h;split at h
 ·injection h with h;omega
 ·split at h
  ·rename_i h2 h3;injection h with h;have hlt:a.toNat<f.length:=by omega
   rw[List.getElem?_eq_getElem hlt]at h;have:=hf _ (List.getElem_mem hlt);simp only[Option.getD_some]at h;omega
  ·cases h
def Tog.far (w:World)(p a:Addr)(v:Value)(h:p.block≠a.block):(w.setCell p v).cell? a=w.cell? a:=World.cell?_setCell_other w p a v (λe=>h (by rw[e]))
structure Tog.Inv (w:World) (sv:Value) (nx r0:Int) (r1:Bool) (W:World):Prop where
 b:Below w.heap.size w W
 c0:W.cell? ⟨w.heap.size,0,none⟩=some sv
 c1:W.cell? ⟨w.heap.size+1,0,none⟩=some (.int .i64 r0)
 f1:W.frozen? ⟨w.heap.size+1,0,none⟩=false
 c2:W.cell? ⟨w.heap.size+1+1,0,none⟩=some (.bool r1)
 f2:W.frozen? ⟨w.heap.size+1+1,0,none⟩=false
 c3:W.cell? ⟨w.heap.size+1+1+1,0,none⟩=some (.int .i64 nx)
 f3:W.frozen? ⟨w.heap.size+1+1+1,0,none⟩=false
def Tog.Inv.grow {w W W':World}{sv:Value}{nx r0:Int}{r1:Bool}{row:Option Nat}(h:Tog.Inv w sv nx r0 r1 W)(hg:W.grownBy W' row)(hr: ∀r,row=some r->w.heap.size<=r/\ ∃o:Obj,W.heap[r]? =some o/\o.isCells=false):Tog.Inv w sv nx r0 r1 W':=by have hr2: ∀r,row=some r-> ∃o:Obj,W.heap[r]? =some o/\o.isCells=false:=λr e=>(hr r e).2;exact⟨h.b.grown hg h.b.size (λk e=>(hr k e).1),cell_kept h.c0 hg hr2,cell_kept h.c1 hg hr2,(frozen_kept h.c1 hg hr2).trans h.f1,cell_kept h.c2 hg hr2,(frozen_kept h.c2 hg hr2).trans h.f2,cell_kept h.c3 hg hr2,(frozen_kept h.c3 hg hr2).trans h.f3⟩
def Tog.Inv.next {w W:World}{sv:Value}{nx r0:Int}{r1:Bool}(h:Tog.Inv w sv nx r0 r1 W)(v:Int):Tog.Inv w sv v r0 r1 (W.setCell ⟨w.heap.size+1+1+1,0,none⟩ (.int .i64 v)):=by
 refine⟨h.b.setCell (by show _<=w.heap.size+1+1+1;omega) _,?_,?_,?_,?_,?_,?_,?_⟩
 ·rw[Tog.far _ _ _ _ (by first|(simp;done)|(simp;omega))];exact h.c0
 ·rw[Tog.far _ _ _ _ (by first|(simp;done)|(simp;omega))];exact h.c1
 ·rw[World.frozen?_setCell];exact h.f1
 ·rw[Tog.far _ _ _ _ (by first|(simp;done)|(simp;omega))];exact h.c2
 ·rw[World.frozen?_setCell];exact h.f2
 ·exact World.cell?_setCell_same' _ _ _ (by rw[h.c3];rfl)
 ·rw[World.frozen?_setCell];exact h.f3
def Tog.Inv.res {w W:World}{sv:Value}{nx r0:Int}{r1:Bool}(h:Tog.Inv w sv nx r0 r1 W)(v:Int)(c:Bool):
 Tog.Inv w sv nx v c ((W.setCell ⟨w.heap.size+1,0,none⟩ (.int .i64 v)).setCell ⟨w.heap.size+1+1,0,none⟩ (.bool c)):=by
 refine⟨(h.b.setCell (by show _<=w.heap.size+1;omega) _).setCell (by show _<=w.heap.size+1+1;omega) _,?_,?_,?_,?_,?_,?_,?_⟩
 ·rw[Tog.far _ _ _ _ (by first|(simp;done)|(simp;omega)),Tog.far _ _ _ _ (by first|(simp;done)|(simp;omega))];exact h.c0
 ·rw[Tog.far _ _ _ _ (by first|(simp;done)|(simp;omega))];exact World.cell?_setCell_same' _ _ _ (by rw[h.c1];rfl)
 ·rw[World.frozen?_setCell,World.frozen?_setCell];exact h.f1
 ·exact World.cell?_setCell_same' _ _ _ (by rw[Tog.far _ _ _ _ (by first|(simp;done)|(simp;omega)),h.c2];rfl)
 ·rw[World.frozen?_setCell,World.frozen?_setCell];exact h.f2
 ·rw[Tog.far _ _ _ _ (by first|(simp;done)|(simp;omega)),Tog.far _ _ _ _ (by first|(simp;done)|(simp;omega))];exact h.c3
 ·rw[World.frozen?_setCell,World.frozen?_setCell];exact h.f3
set_option maxRecDepth 100000 in
set_option maxHeartbeats 4000000 in
def Tog.body_in (F:Fence)(l n b off cap len cap2 len2:Nat)(a2:Option Addr)(m:Nat)(y nx0 x1:Int)(B:Nat)(w W:World)(Q:Exit->Act->World->Prop)(hm:m<len)(hr:len*8<=140737488351232)
 (c0:W.cell? ⟨B,0,none⟩=some (.slice (some ⟨b,off,none⟩) len cap)) (c3:W.cell? ⟨B+1+1+1,0,none⟩=some (.int .i64 ((m:Int)+1))) (f3:W.frozen? ⟨B+1+1+1,0,none⟩=false)
 (hcm:W.cell? ⟨b,off+m,none⟩=some (.int .i64 y)) (hn: ∀a,Q .normal a (W.setCell ⟨B+1+1+1,0,none⟩ (.int .i64 y))):
 Code.wpIn (F.inRound l) (n - 1 - 1) Tryz.prog (Code.block 1 (((Code.region 4 #[{ dst := some 16, op := Op.move (Operand.tmp 10), type := 3, pos := "expr.go:108", after := #[], guard := none }, { dst := some 17, op := Op.binOp BinOp.eql 3 (Operand.tmp 16) (Operand.const (Value.int IntKind.i64 (-1))) 3, type := 4, pos := "expr.go:108", after := #[{ on := 0, ground := Ground.data }], guard := none }] false).seq (Code.cond (Operand.tmp 17) (Code.exit 1) Code.skip)).seq (((Code.region 5 #[{ dst := some 18, op := Op.move (Operand.tmp 10), type := 3, pos := "expr.go:111", after := #[], guard := none }, { dst := some 19, op := Op.load 3 (Operand.tmp 8), type := 3, pos := "expr.go:111", after := #[], guard := none }, { dst := some 20, op := Op.binOp BinOp.sub 3 (Operand.tmp 19) (Operand.const (Value.int IntKind.i64 1)) 3, type := 3, pos := "expr.go:111", after := #[{ on := 1, ground := Ground.data }], guard := none }, { dst := some 21, op := Op.binOp BinOp.neq 3 (Operand.tmp 18) (Operand.tmp 20) 3, type := 4, pos := "expr.go:111", after := #[{ on := 0, ground := Ground.data }, { on := 2, ground := Ground.data }], guard := none }] false).seq (Code.cond (Operand.tmp 21) ((Code.region 6 #[{ dst := none, op := Op.store 3 (Operand.tmp 6) (Operand.const (Value.int IntKind.i64 0)), type := 0, pos := "expr.go:112", after := #[], guard := none }, { dst := none, op := Op.store 4 (Operand.tmp 7) (Operand.const (Value.bool false)), type := 0, pos := "expr.go:112", after := #[{ on := 0, ground := Ground.chain }, { on := 0, ground := Ground.phase }], guard := none }] false).seq Code.ret) Code.skip)).seq (Code.region 7 #[{ dst := some 22, op := Op.load 55 (Operand.tmp 3), type := 55, pos := "expr.go:114", after := #[], guard := none }, { dst := some 23, op := Op.move (Operand.tmp 10), type := 3, pos := "expr.go:114", after := #[], guard := none }, { dst := some 24, op := Op.indexAddr 55 (Operand.tmp 22) (Operand.tmp 23), type := 0, pos := "expr.go:114", after := #[{ on := 0, ground := Ground.data }, { on := 1, ground := Ground.data }], guard := none }, { dst := some 25, op := Op.load 3 (Operand.tmp 24), type := 3, pos := "expr.go:114", after := #[{ on := 2, ground := Ground.data }], guard := none }, { dst := none, op := Op.store 3 (Operand.tmp 8) (Operand.tmp 25), type := 0, pos := "expr.go:114", after := #[{ on := 3, ground := Ground.data }, { on := 0, ground := Ground.phase }, { on := 1, ground := Ground.phase }, { on := 2, ground := Ground.phase }, { on := 3, ground := Ground.phase }], guard := none }] false)))) Q (Act.mk #[Value.slice (some { block := b, off := off }) len cap, Value.slice a2 len2 cap2, Value.int IntKind.i64 nx0,
  Value.pointer (some {block:=B,off:=0}),undef,undef,
  Value.pointer (some {block:=B+1,off:=0}),
  Value.pointer (some {block:=B+1+1,off:=0}),
  Value.pointer (some {block:=B+1+1+1,off:=0}),undef,.int .i64 (m:Int),Value.int IntKind.i64 nx0,
  Value.slice a2 len2 cap2,
  Value.func (Fn.func 166) #[] #[Value.pointer (some {block:=B+1+1+1+1,off:=0})],
  .int .i64 x1,.int .i64 (m:Int),undef,undef,undef,undef,undef,undef,undef,undef,undef,undef,undef] []) W:=by
 have hm2: ¬((m:Int)= -1):=by omega
 gi_wp2
 exact hn _
set_option maxRecDepth 100000 in
set_option maxHeartbeats 4000000 in
def Tog.together_in (F:Fence)(n:Nat)(h4:F.fn 117)(h6:F.fn 150)(h8:F.fn 166)(hro:F.round=none)(hn:3<=n)(a1 a2:Option Addr)(len1 cap1 len2 cap2:Nat)(f zs:List Int)
 (hreach:zs.length*8<=140737488351232) (hreach1:f.length*8<=140737488351232) (hf:Tog.ok f) (nx0:Int) (hx0:0<=nx0) (hx1:nx0<=f.length) (w:World) (hI1:Tog.Ints w.heap.size w (.slice a1 len1 cap1) f) (hI2:Tog.Ints w.heap.size w (.slice a2 len2 cap2) zs):
 CallsIn F n Tryz.prog 117 #[.slice a1 len1 cap1,.slice a2 len2 cap2,.int .i64 nx0] w λe W'=>
  e= .returned (match Go.Abs.togSt f zs.reverse nx0 with|some v=> .tuple #[.int .i64 v,.bool true]|none=> .tuple #[.int .i64 0,.bool false])/\Below w.heap.size w W':=by
 have h1:1<=n:=by omega
 obtain⟨rv,hrv⟩: ∃rv,rv=(match Go.Abs.togSt f zs.reverse nx0 with|some v=>Value.tuple #[.int .i64 v,.bool true]|none=>Value.tuple #[.int .i64 0,.bool false]):=⟨_,rfl⟩
 rw[<-hrv];refine callsIn_of_wp_marks Tryz.func117 rfl h4 ?_ hro;simp only[Tryz.ntmps117,List.size_toArray,List.length_cons,List.length_nil,Nat.reduceAdd,Nat.reduceSub,Array.replicate_succ,Array.replicate_zero,List.push_toArray,List.append_toArray,List.nil_append,List.cons_append]
 gi_wp2_with (gi_at_call 150;refine(Tog.back_in F (n-1) h6 hro _ _ _ _).mono ?_;rintro e w' ⟨rfl,rfl⟩)
 obtain⟨w5,hw5⟩: ∃w5,w5=((((w.alloc (Obj.cells #[Value.slice a1 len1 cap1] 55)).alloc (Obj.cells #[Value.int IntKind.i64 0] 3)).alloc (Obj.cells #[Value.bool false] 4)).alloc (Obj.cells #[Value.int IntKind.i64 nx0] 3)).alloc (Obj.cells #[Value.slice a2 len2 cap2] 55):=⟨_,rfl⟩;rw[<-hw5];have hsize:w5.heap.size=w.heap.size+5:=by rw[hw5];simp
 have hB0:Below w.heap.size w w5:=by rw[hw5];exact(((((Below.refl _ w).alloc (Nat.le_refl _) _).alloc (by simp) _).alloc (by simp;omega) _).alloc (by simp;omega) _).alloc (by simp;omega) _
 have b0:Boxed w5 w.heap.size 55 (Value.slice a1 len1 cap1):=by rw[hw5];exact((((Boxed.new w _ _).alloc _).alloc _).alloc _).alloc _
 have b1:Boxed w5 (w.heap.size+1) 3 (.int .i64 0):=by rw[hw5];have:=Boxed.new (w.alloc (Obj.cells #[Value.slice a1 len1 cap1] 55)) 3 (.int .i64 0);rw[World.size_alloc]at this;exact((this.alloc _).alloc _).alloc _
 have b2:Boxed w5 (w.heap.size+1+1) 4 (.bool false):=by rw[hw5];have:=Boxed.new ((w.alloc (Obj.cells #[Value.slice a1 len1 cap1] 55)).alloc (Obj.cells #[Value.int IntKind.i64 0] 3)) 4 (.bool false);rw[World.size_alloc,World.size_alloc]at this;exact(this.alloc _).alloc _
 have b3:Boxed w5 (w.heap.size+1+1+1) 3 (.int .i64 nx0):=by rw[hw5];have:=Boxed.new (((w.alloc (Obj.cells #[Value.slice a1 len1 cap1] 55)).alloc (Obj.cells #[Value.int IntKind.i64 0] 3)).alloc (Obj.cells #[Value.bool false] 4)) 3 (.int .i64 nx0);rw[World.size_alloc,World.size_alloc,World.size_alloc]at this;exact this.alloc _
 have b4:Boxed w5 (w.heap.size+1+1+1+1) 55 (Value.slice a2 len2 cap2):=by rw[hw5];have:=Boxed.new ((((w.alloc (Obj.cells #[Value.slice a1 len1 cap1] 55)).alloc (Obj.cells #[Value.int IntKind.i64 0] 3)).alloc (Obj.cells #[Value.bool false] 4)).alloc (Obj.cells #[Value.int IntKind.i64 nx0] 3)) 55 (Value.slice a2 len2 cap2);rw[World.size_alloc,World.size_alloc,World.size_alloc,World.size_alloc]at this;exact this
 have hi5:Tog.Inv w (Value.slice a1 len1 cap1) nx0 0 false w5:=⟨hB0,b0.cell,b1.cell,b1.frozen,b2.cell,b2.frozen,b3.cell,b3.frozen⟩;refine wpIn_rangeFunc_ownG hro h1 (gf:=166) (lb:= #[.pointer (some ⟨w.heap.size+1+1+1+1,0,none⟩)]) rfl h8 (enters_of Tryz.func166 (by kernel_rfl) rfl)
  (Tog.back_stops F (n-1) h8 hro (by omega) (w.heap.size+1+1+1+1) w.heap.size _ zs hreach w5 (by omega) (by omega) b4.cell (hI2.below hB0)) (λh k=>Tog.Kp.trans h k) (Tog.Kp.put (by omega) (by omega)) (Below.refl _ _) (λ_=>rfl)
  (λpre W=> ∃nx,Go.Abs.togSt f (pre.map Prod.snd) nx0=some nx/\0<=nx/\nx<=f.length/\Tog.Inv w (Value.slice a1 len1 cap1) nx 0 false W)
  (λc pre W=>c= .ret/\Go.Abs.togSt f (pre.map Prod.snd) nx0=none/\ ∃nx,Tog.Inv w (Value.slice a1 len1 cap1) nx 0 false W)
  (λs A B row hs hg hr=>by obtain⟨nx,h1,h2,h3,h4⟩:=hs;exact⟨nx,h1,h2,h3,h4.grow hg λr e=>⟨by have:=(hr r e).1;omega,(hr r e).2⟩⟩)
  (λc s A B row hs hg hr=>by obtain⟨h1,h2,nx,h4⟩:=hs;exact⟨h1,h2,nx,h4.grow hg λr e=>⟨by have:=(hr r e).1;omega,(hr r e).2⟩⟩)
  ⟨nx0,rfl,hx0,hx1,hi5⟩
  (λx => { tmps := #[Value.slice a1 len1 cap1, Value.slice a2 len2 cap2, Value.int IntKind.i64 nx0,
   Value.pointer (some {block:=w.heap.size,off:=0}),undef,undef,
   Value.pointer (some {block:=w.heap.size+1,off:=0}),
   Value.pointer (some {block:=w.heap.size+1+1,off:=0}),
   Value.pointer (some {block:=w.heap.size+1+1+1,off:=0}),undef,.int .i64 x.2,Value.int IntKind.i64 nx0,
   Value.slice a2 len2 cap2,
   Value.func (Fn.func 166) #[] #[Value.pointer (some {block:=w.heap.size+1+1+1+1,off:=0})],
   .int .i64 x.1,.int .i64 x.2,undef,undef,undef,undef,undef,undef,undef,undef,undef,undef,undef],defers:=[]}) ?assign ?body ?done ?stop
 case assign=>
  intro l x W K hK
  gi_wp2
  exact hK
 case body=>
  rintro l pre ⟨x1,x2⟩ W ⟨nx,hst,hn0,hn1,hi⟩ _;have hi':=hi;obtain⟨hb,c0,c1,f1,c2,f2,c3,f3⟩:=hi;by_cases h2:x2= -1
  ·subst h2
   gi_wp2
   refine⟨KeepsFrom.refl _ _,Tog.Kp.refl _ _ _,nx,?_,hn0,hn1,hi'⟩;rw[List.map_append,List.map_cons,List.map_nil,Tog.st_snoc,hst];rfl
  ·by_cases h3:x2=nx-1
   ·obtain⟨m,rfl⟩: ∃m:Nat,x2=m:=⟨x2.toNat,by omega⟩;obtain rfl:nx=(m:Int)+1:=by omega
    have hml:m<f.length:=by omega
    rcases hI1.below hb with⟨_,rfl⟩|⟨b,off,cap,e,hbb,hcs⟩
    ·simp at hml
    ·have hcm:=hcs m hml;obtain⟨y,hyv⟩: ∃y,(f[m]?).getD 0=y:=⟨_,rfl⟩;rw[hyv]at hcm;have hs:Go.Abs.togStep f ((m:Int)+1) m=some y:=by unfold Go.Abs.togStep;rw[if_neg h2,if_pos (by omega),Int.toNat_natCast,hyv]
     generalize hQ:ownPostG _ _ _ _ _ _=Q;have hn: ∀a,Q .normal a (W.setCell ⟨w.heap.size+1+1+1,0,none⟩ (.int .i64 y)):=by
      intro a;rw[<-hQ];refine⟨(KeepsOthers.setCell _ _ _).from _,⟨(Below.refl _ _).setCell (by show _<=w.heap.size+1+1+1;omega) _,?_⟩,y,?_,(Tog.step_ok hf hn0 hn1 hs).1,(Tog.step_ok hf hn0 hn1 hs).2,hi'.next y⟩
      ·rw[Tog.far _ _ _ _ (by first|(simp;done)|(simp;omega))]
      ·rw[List.map_append,List.map_cons,List.map_nil,Tog.st_snoc,hst];exact hs
     clear hQ;rw[e]at c0 |-;exact Tog.body_in F l n b off cap f.length cap2 len2 a2 m y nx0 x1 w.heap.size w W Q hml (by omega) c0 c3 f3 hcm hn
   ·gi_wp2
    refine⟨⟨?_,?_⟩,rfl,?_,nx,hi'.res 0 false⟩
    ·simp
    ·intro k o hk ho hoc;have k1:=((KeepsOthers.setCell W ⟨w.heap.size+1,0,none⟩ (.int .i64 0))).same k o ho hoc;exact(KeepsOthers.setCell _ ⟨w.heap.size+1+1,0,none⟩ (.bool false)).same k o k1 hoc
    ·rw[List.map_append,List.map_cons,List.map_nil,Tog.st_snoc,hst];simp only[Option.bind_some,Go.Abs.togStep,if_neg h2,if_neg h3]
 case done=>
  rintro D ys W hD rfl ⟨nx,hst,hn0,hn1,hi⟩ hK;have hi':=hi;obtain⟨hb,c0,c1,f1,c2,f2,c3,f3⟩:=hi;rw[Tog.upto_rev]at hst;rw[hst]at hrv;dsimp only at hrv;subst hrv;clear b0 b1 b2 b3 b4 hi5
  gi_wp2
  have hi2:=hi'.res nx true;have hK':=(KeepsOthers.setCell (W.setCell ⟨w.heap.size+1,0,none⟩ (.int .i64 nx)) ⟨w.heap.size+1+1,0,none⟩ (.bool true)).same D _ ((KeepsOthers.setCell W ⟨w.heap.size+1,0,none⟩ (.int .i64 nx)).same D _ hK rfl) rfl;refine⟨by simp,.inl ⟨_,_,rfl,run_takeDeferred hK',?_⟩⟩;have hi3:=hi2.grow (grownBy_putObj' _ D (.deferred none)) (λr e=>by cases e;exact⟨by omega,_,hK',rfl⟩);refine⟨.tuple #[.int .i64 nx,.bool true],?_,rfl,hi3.b⟩;have k1:=hi3.c1;have k2:=hi3.c2;simp[results,Tryz.f117,go_sem,k1,k2]
 case stop=>
  rintro D c pre W hD ⟨k,hk,rfl⟩ ⟨rfl,hst,nx,hi⟩ hK;obtain⟨r,hr⟩:=Tog.upto_pre zs hk;have hst2:Go.Abs.togSt f zs.reverse nx0=none:=by rw[hr];exact Tog.st_none _ _ _ _ hst
  rw[hst2]at hrv;dsimp only at hrv;subst hrv;have hi':=hi;obtain⟨hb,c0,c1,f1,c2,f2,c3,f3⟩:=hi;clear b0 b1 b2 b3 b4 hi5
  gi_wp2
  refine⟨by simp,.inl ⟨_,_,rfl,run_takeDeferred hK,?_⟩⟩;have hi3:=hi'.grow (grownBy_putObj' _ D (.deferred none)) (λr e=>by cases e;exact⟨by omega,_,hK,rfl⟩);refine⟨.tuple #[.int .i64 0,.bool false],?_,rfl,hi3.b⟩;have k1:=hi3.c1;have k2:=hi3.c2;simp[results,Tryz.f117,go_sem,k1,k2]
end Go.Proofs
set_option maxRecDepth 100000
namespace Go.Abs
open Go Go.Proofs Go.RowKit
section
variable {W0 w:World}{μ:Mu}
def Nv {G:Gh}{b:Nat}: ∀(l:List CV) (off:Nat) (zs:List Int),EL G w b 1 off l->intsOf l=some zs->zs.length=l.length/\ ∀j,j<zs.length->w.cell? ⟨b,off+j,none⟩=some (.int .i64 (zs[j]?.getD 0))
 |[],off,zs,_,h=>by injection h with h;subst h;exact⟨rfl,λj hj=>by simp at hj⟩
 |x::r,off,zs,h,hz=>by
  unfold intsOf at hz;split at hz
  ·rename_i e;cases e
  ·rename_i n r' e;injection e with e1 e2;subst e1 e2;obtain⟨l,hl,h2⟩:=cK hz;injection h2 with h2;subst h2;simp only[EL]at h;obtain⟨⟨v,hv,_,hx⟩,hr⟩:=h;simp only[VR]at hx;subst hx;obtain⟨i1,i2⟩:=Nv r (off+1) l hr hl;refine⟨by simp[i1],λj hj=> ?_⟩;cases j with|zero=>simpa using hv|succ j=>have:=i2 j (by simpa using hj);rw[show off+(j+1)=off+1+j by omega];simpa using this
  ·cases hz
def zd: ∀(l:List CV) (zs:List Int),intsOf l=some zs-> ∀x∈l,x.cells.length=1
 |[],zs,_,x,hx=>by simp at hx|y::r,zs,hz,x,hx=>by
  unfold intsOf at hz;split at hz
  ·rename_i e;cases e
  ·rename_i n r' e;injection e with e1 e2;subst e1 e2;obtain⟨l,hl,h2⟩:=cK hz;rcases eE.1 hx with rfl|hx
   ·rfl
   ·exact zd r l hl x hx
  ·cases hz
def OP {G:Gh}{b off cap s:Nat}{xs:List CV}{zs:List Int}(hz:intsOf xs=some zs)(h0:xs≠[])(hs: ∀x∈xs,x.cells.length=s)(he:EL G w b s off xs):Tog.Ints w.heap.size w (.slice (some ⟨b,off,none⟩) xs.length cap) zs:=by
 have h1:s=1:=by
  match xs,h0 with
  |y::r,_=>rw[<-hs y bG];exact zd _ _ hz y bG
 subst h1;obtain⟨i1,i2⟩:=Nv xs off zs he hz;refine Or.inr ⟨b,off,cap,by rw[i1],?_,i2⟩;have hp:0<xs.length:=AT.2 h0;have:=Fk (i2 0 bu);exact this
def OQ {G:Gh}{L:Nat}{x:LV}{v:Value}{xs:List CV}{zs:List Int}(h:LVR G w L 0 x v)(hx:cR x=some xs)(hz:intsOf xs=some zs): ∃a len cap,v= .slice a len cap/\Tog.Ints w.heap.size w (.slice a len cap) zs:=by
 unfold cR at hx;split at hx
 ·rename_i ys;injection hx with hx;subst ys;simp only[LVR,VR]at h;obtain⟨A,len,cap,rfl,rfl,h1,h2⟩:=h;refine⟨A,_,cap,rfl,?_⟩;by_cases h0:xs=[]
  ·subst h0;injection hz with hz;exact .inl ⟨⟨A,cap,rfl⟩,hz.symm⟩
  ·rcases h2 with h2|⟨b,off,s,rfl,h3,h4⟩
   ·exact absurd (AU.1 h2) h0
   ·exact OP hz h0 h3 h4
 ·injection hx with hx;subst hx;simp only[LVR,VR]at h;subst h;injection hz with hz;exact⟨none,0,0,rfl,.inl ⟨⟨none,0,rfl⟩,hz.symm⟩⟩
 ·rename_i ys;injection hx with hx;subst ys;simp only[LVR,ox]at h;rcases h with⟨rfl,rfl⟩|⟨b,cap,cur,e,s,rfl,h6,_,_,_,h3,h5,h4,_⟩
  ·injection hz with hz;exact⟨none,0,0,rfl,.inl ⟨⟨none,0,rfl⟩,hz.symm⟩⟩
  ·refine⟨_,_,cap,rfl,?_⟩;by_cases h0:xs=[]
   ·subst h0;injection hz with hz;exact .inr ⟨b,0,cap,by rw[<-hz];rfl,Fx h6,λj hj=>by rw[<-hz]at hj;simp at hj⟩
   ·exact OP hz h0 h3 h4
 ·cases hx
def PP {cargs:Array Value}{v1 v2 v3:Value}(hs:cargs.size=3)(h1:cargs.getD 0 undef=v1)(h2:cargs.getD 1 undef=v2)(h3:cargs.getD 2 undef=v3):cargs= #[v1,v2,v3]:=by
 apply vM
 ·simpa using hs
 ·intro j k1 k2;rw[d7,vN bu]at h1 h2 h3;have:j=0\/j=1\/j=2:=bu;rcases this with rfl|rfl|rfl
  ·simpa using h1
  ·simpa using h2
  ·simpa using h3
def Nb {args:List LV}{out:Out}(h:qM args μ=some out):fk E.P W0 117 args μ out:=by
 unfold qM at h;obtain⟨q,hq,h⟩:=cK h;obtain⟨r,hr,h⟩:=cK h;obtain⟨z,hz,h⟩:=cK h;obtain⟨u,hu,h⟩:=cK h;obtain⟨f,hf,h⟩:=cK h;obtain⟨l,hl,h⟩:=cK h;obtain⟨nx,hnx,h⟩:=cK h;obtain⟨fi,hfi,h⟩:=cK h;obtain⟨li,hli,h⟩:=cK h;obtain⟨hg,h⟩:=iu h;injection h with h;subst h;have hargs:args=[q.1,r.1,z.1]:=by rw[eI hq,eI hr,eI hz,iq hu]
 subst hargs;unfold ED at hg;simp only[cM,dn,j2]at hg;obtain⟨⟨⟨⟨g1,g2⟩,g3⟩,g4⟩,g5⟩:=hg;refine mU (gm Tryz.func117 rfl bx) λG w cargs hs hv h1 h2=> ?_;obtain⟨a1,len1,cap1,e1,I1⟩:=OQ (hv 0 _ rfl) hf hfi;obtain⟨a2,len2,cap2,e2,I2⟩:=OQ (hv 1 _ rfl) hl hli;have e3:=hv 2 _ rfl;rw[wQ hnx]at e3;simp only[LV.int,CV.int,LVR,VR]at e3;rw[PP (by simpa using hs) e1 e2 e3];refine((Tog.together_in Fence.wide 3 trivial trivial trivial rfl (cw _) a1 a2 len1 cap1 len2 cap2 fi li bu bu (λv hv=>by simpa using g5 v hv) nx g3 g4 w I1 I2).calls λk d hd=>by cases hd).mono λe w' ⟨k1,k2⟩=> ?_;refine⟨_,k1,k2,?_,λb hb=> ?_⟩
 ·unfold Lc;cases Go.Abs.togSt fi li.reverse nx with|some v=>exact⟨_,rfl,_,_,rfl,rfl,rfl,_,_,rfl,rfl,rfl,rfl⟩|none=>exact⟨_,rfl,_,_,rfl,rfl,rfl,_,_,rfl,rfl,rfl,rfl⟩
 ·unfold Lc at hb;split at hb<;>simp[bZ]at hb
def CO {args:List LV}{out:Out}(h:ly qU args μ=some out):fk E.P W0 131 args μ out:=by
 unfold ly at h;obtain⟨q,hq,h⟩:=cK h;obtain⟨r,hr,h⟩:=cK h;obtain⟨u,hu,h⟩:=cK h;obtain⟨s,hs,h⟩:=cK h;have hargs:args=[LV.str s,r.1]:=by rw[eI hq,eI hr,iq hu,jN hs]
 rw[hargs];split at h
 ·rename_i g hg;rw[hg];obtain⟨p,hp,h⟩:=cK h;injection h with h;subst h;unfold qU at hp;split at hp
  ·injection hp with hp;subst hp;exact FI aez Tryz.call186 (λb hb=>rfl) (λx hx=>by simp;omega) (λb hb=>by simp;omega)
  ·injection hp with hp;subst hp;exact FI p44 Tryz.call132 (λb hb=>rfl) (λx hx=>by simp;omega) (λb hb=>by simp;omega)
  ·injection hp with hp;subst hp;refine FI p92 Tryz.call137 (λb hb=>Wz ⟨b.toNat,hb⟩) (λx hx=> ?_) (λb hb=> ?_)
   ·unfold HV;have:decide (126<x)=true:=cr;rw[this];rfl
   ·simp;omega
  ·cases hp
 ·cases h
def UV (B:Base W0):Am E W0:=by
 intro f g hf args μ out h;have hp:Rr f=some g:=hf;unfold Rr at hp;split at hp<;>first|(cases hp;done)|skip
 all_goals(injection hp with hp;subst hp)
 all_goals first
  |exact Nb h|exact Rj B h|exact ZD B h|exact ZE B h|exact KH B h|exact HD B h|exact Nc B h|exact KI B h|exact W9 B h|exact HC B h|exact CO h|exact KG h|exact UC h
end
end Go.Abs
namespace Go.Abs.Ga
open Go Go.Proofs
def is_u8 {P:Program}{t:TypeId}{c:CV}(ht:mf P t=false)(h:if mf P t=true then ∃ys,c= .agg ys/\IsL [.int .u8] ys else IsL [.int .u8] [c]): ∃n:Int,LV.cv c=LV.int .u8 n/\0<=n:=by simp only[ht,Bool.false_eq_true,if_false,IsL,Is]at h;obtain⟨y,r,e,⟨n,rfl,hw⟩,_⟩:=h;injection e with e _;subst e;refine⟨n,rfl,?_⟩;have h1:(decide (IntKind.u8.min<=n)&&decide (n<=IntKind.u8.max))=true:=hw;rw[Bool.and_eq_true,decide_eq_true_eq]at h1;exact h1.1
end Go.Abs.Ga
set_option maxRecDepth 100000
namespace Go.Proofs.YtmemoghbijcebaaGreatDoor.ExprLevels
open Go Go.Proofs
def FR:Tryz.prog.closure 7=[7,12,13,51,85,127,151,167,131,154,171,186,152,168,169,187,82,126,160,188,190,189,207,133,155,172,196,216,217,156,173,197,174,175,199,218,230,243,244,254,253,255,245,246,256,257,262,263,198,176,191,205,206,224,231,247,258,259,213,228,239,251,240,241,242,252,157,153,170,177,200,129,178,201,89,135,138,136,130,158,179,180,202,219,181,159,182,203,220,221,192,193,92,208,209,210,225,232,233,234,248,235,249,260,264,265,226,236,237,238,250,261,211,227,229,212,194,214,195,215,93,18,55,90,132,134,91,137,56,94,95,139,161,183,162,164,184,204,222,223,185,76,123,163,69,118,119,165,57,96,73,58,97,140,98,22,53,64,33,67,72,117,150,166,78,68,115,114,87,128,88,16,26,65,30,31,32,17,54,29]:=by kernel_rfl
def inPlace:Tryz.prog.inPlace 7=Rows.exprLevelsRow.inPlace:=by unfold Program.inPlace;rw[FR];kernel_rfl
def unfollowed:Tryz.prog.unfollowed 7=Rows.exprLevelsRow.unfollowed:=by unfold Program.unfollowed;rw[FR];kernel_rfl
def recurses:Tryz.prog.recurses 7=Rows.exprLevelsRow.recurses:=by unfold Program.recurses;rw[unfollowed];rfl
def varsNamed:Tryz.prog.varsNamed 7=Rows.exprLevelsRow.named:=by unfold Program.varsNamed;rw[FR];kernel_rfl
def XV:joinedFacts Tryz.pinned.checked.prog 7 Tryz.f7 (OpenSpec.ofChange Rows.exprLevelsSpec).bare Rows.exprLevelsRow=true:=by unfold joinedFacts;rw[show Tryz.pinned.checked.prog.inPlace 7=_ from inPlace,show Tryz.pinned.checked.prog.unfollowed 7=_ from unfollowed,show Tryz.pinned.checked.prog.recurses 7=_ from recurses,show Tryz.pinned.checked.prog.varsNamed 7=_ from varsNamed];kernel_rfl
end Go.Proofs.YtmemoghbijcebaaGreatDoor.ExprLevels
set_option maxRecDepth 100000
namespace Go.Proofs.YtmemoghbijcebaaGreatDoor.ExprLevels
open Go Go.Proofs Go.Abs Go.ChangeShapes Go.WideShapes Go.ChangeAt Go.RowKit Glue
def V8 (H:Type)(enc:TypeId×Value->H)(W:World)(base:Nat)(args:Array Value)(ds gs:List (DataW H))(before:List MemPlace)
 (hval: ∀(j:Nat) t v,Tryz.f7.params[j]? =some t->args[j]? =some v->Value.okWide Tryz.prog W .any base t v)
 (hW:DataW.Whole enc Tryz.prog Tryz.f7.params.toList Rows.exprLevelsSpec.vars false W args.toList ds gs before) (hL:laidMetH Tryz.prog Rows.exprLevelsRow.laid W) (hS:W.ShapedOpen Tryz.prog):
 Calls Tryz.prog 7 args W λe W'=> ∃v,e= .returned v/\Rows.exprLevelsSpec.post enc Tryz.prog Tryz.f7 false true false false W args v W':=by
 have hL':laidMet Tryz.prog AA W:=hL;have B:=II hL' hS;have hW':=hW;obtain⟨p,q,hA0,hV0,rfl,_,_⟩:=hW;have hA:DataW.TrodAll enc Tryz.prog W 0 (λ_=>true) true Tryz.f7.params.toList args.toList ds p:=hA0;rw[Tryz.params7]at hA hval;obtain⟨v0,vs0,d0,ds0,p0,q0,e0,rfl,rfl,h0,r0⟩:=trodAll_cons hA;obtain⟨v1,vs1,d1,ds1,p1,q1,e1,rfl,rfl,h1,r1⟩:=trodAll_cons r0;obtain⟨v2,vs2,d2,ds2,p2,q2,e2,rfl,rfl,h2,r2⟩:=trodAll_cons r1;obtain⟨rfl,rfl,rfl⟩:=trodAll_nil r2;obtain rfl:args= #[v0,v1,v2]:=by cases args;simp_all
 obtain⟨rfl,rfl⟩:=trodVars_none hV0;obtain⟨c0,V0,I0⟩:=Ga.open_arg (n:=8) (l:=[.int .i64]) bx (hval 0 3 v0 rfl rfl) h0;obtain⟨x0,X0⟩:=Ga.is_int (t:=3) bx I0;obtain⟨c1,V1,I1⟩:=Ga.open_arg (n:=8) (l:=[.int .i64]) bx (hval 1 3 v1 rfl rfl) h1;obtain⟨x1,X1⟩:=Ga.is_int (t:=3) bx I1;obtain⟨c2,V2,I2⟩:=Ga.open_arg (n:=8) (l:=[.int .u8]) bx (hval 2 5 v2 rfl rfl) h2;obtain⟨x2,X2⟩:=Ga.is_u8 (t:=5) bx I2;clear hA0 hV0;simp only[List.append_nil]at hW';have hm:fk Tryz.prog W 7 ([c0,c1,c2].map LV.cv) [] (.ret (LV.bool true) []):=by refine Jk aaR (UV B) ?_;show (ev E).call 7 [LV.cv c0,LV.cv c1,LV.cv c2] []=_;rw[(X0).1,(X1).1,(X2).1];exact ad3 X2.2
 refine(fk.bool (cargs:= #[v0,v1,v2]) hm rfl (λj x hx=> ?_)).mono λe W' ⟨he,hk⟩=> ?_
 ·match j,hx with
  |0,hx=>injection hx with hx;subst hx;exact V0
  |1,hx=>injection hx with hx;subst hx;exact V1
  |2,hx=>injection hx with hx;subst hx;exact V2
 ·subst he;exact⟨_,rfl,Ga.post_true (tb:=4) Y5 bx Tryz.underlying4 bx rfl hW' rfl rfl rfl hk⟩
def Ns (os:Os){H:Type}(enc:TypeId×Value->H):
 (OpenSpec.ofChange Rows.exprLevelsSpec).preRow enc Tryz.prog Tryz.f7 Rows.exprLevelsRow.domain false Rows.exprLevelsRow.laid ((mg os).forCall (λ_ _=>0) ⟨#[],#[.int .i64 0,.int .i64 0,.int .u8 0],[]⟩).memory #[.int .i64 0,.int .i64 0,.int .u8 0]:=by
 have hw:(DataW.whole enc Tryz.prog ((mg os).forCall (λ_ _=>0) ⟨#[],#[.int .i64 0,.int .i64 0,.int .u8 0],[]⟩).memory Tryz.f7.params.toList Rows.exprLevelsSpec.vars false (#[.int .i64 0,.int .i64 0,.int .u8 0]:Array Value).toList 8).map (λx=>(x.1,x.2.1))=
  some ([.lit (.int .i64 0),.lit (.int .i64 0),.lit (.int .u8 0)],[]):=bx
 obtain⟨⟨x1,x2,x3⟩,hx,hx1⟩:=Option.map_eq_some_iff.1 hw;simp only[Prod.mk.injEq]at hx1;obtain⟨rfl,rfl⟩:=hx1;exact OpenSpec.preRow_of_cond 8 hx bx (λk hk=>by cases hk) bx (Wp os _)
def aaJ (os:Os)(started:os.Started)(H:Type)(enc:TypeId×Value->H)(F:Stop.Interp):
 ReturnsInHanded {} Tryz.checked os 7 .any ((OpenSpec.ofChange Rows.exprLevelsSpec).preRow enc Tryz.prog Tryz.f7 Rows.exprLevelsRow.domain false Rows.exprLevelsRow.laid) (((OpenSpec.ofChange Rows.exprLevelsSpec).at F).post enc Tryz.prog Tryz.f7 false true false false):=by
 refine returnsInHanded_of_row (C:=Tryz.checked) (s:=OpenSpec.ofChange Rows.exprLevelsSpec) own started bx Tryz.func7
  (witness_row_atRef (enc:=enc) (C:=Tryz.checked) false (mg os) #[.int .i64 0,.int .i64 0,.int .u8 0] rfl bx bx bx (Ns os enc)) ?_
 intro W base args ds gs before hval hW _ _ _ hL hS _;exact V8 H enc W base args ds gs before hval hW hL hS
def said:Rows.ExprLevelsSaid:=
 OpenClaim.holds_of_cond 7 Tryz.f7 rfl rfl rfl rfl rfl rfl rfl ⟨rfl,rfl,rfl,rfl,rfl⟩ rfl rfl rfl rfl rfl bx Tryz.func7 XV
  (of_decide_eq_true bx) (by unfold Func.isWrapper;first|(rw[if_pos (by decide+kernel)];kernel_rfl)|(rw[if_neg (by decide+kernel)];exact⟨rfl,rfl⟩))
  (λos started H enc _ F=>by rw[OpenClaim.pre_eq_preRow];exact aaJ os started H enc F)
def plain (f:FuncId)(fn:Func)(hf:Tryz.pinned.checked.prog.funcNamed "formulary/formularylaw04.ExprLevels" =some f)(hfn:Tryz.pinned.checked.prog.funcs[f]? =some fn):
 true=Tryz.pinned.checked.prog.looks []/\ ∀(j:Nat) t,fn.params[j]? =some t->Tryz.pinned.checked.prog.wantsStandIn t=false:=by
 obtain rfl:f=7:=Option.some.inj ((show Tryz.prog.funcNamed "formulary/formularylaw04.ExprLevels" =some 7 by kernel_rfl).symm.trans hf) |>.symm;obtain rfl:fn=Tryz.f7:=(Option.some.inj (Tryz.func7.symm.trans hfn)).symm;refine⟨bx,λj t ht=> ?_⟩;rw[Tryz.params7]at ht;have hm:=Array.mem_of_getElem? ht;simp only[List.mem_toArray,List.mem_cons,List.not_mem_nil,or_false]at hm;rcases hm with rfl|rfl|rfl
 ·exact(show Tryz.prog.wantsStandIn 3=false by kernel_rfl)
 ·exact(show Tryz.prog.wantsStandIn 3=false by kernel_rfl)
 ·exact(show Tryz.prog.wantsStandIn 5=false by kernel_rfl)
end Go.Proofs.YtmemoghbijcebaaGreatDoor.ExprLevels
namespace Go.Proofs.YtmemoghbijcebaaGreatDoor
theorem exprLevels_holds:Rows.ExprLevelsCardSaid:=
 Claim7.holds_tied_plain_at .later [] _ _ _ _ ExprLevels.said (λ_ h=>by cases h) (by kernel_rfl) (λ_ h=>by cases h) exprLevels_row_tie rfl ⟨rfl,rfl⟩ (by kernel_rfl) rfl ExprLevels.plain (by kernel_rfl)
#print axioms exprLevels_holds
end Go.Proofs.YtmemoghbijcebaaGreatDoor
