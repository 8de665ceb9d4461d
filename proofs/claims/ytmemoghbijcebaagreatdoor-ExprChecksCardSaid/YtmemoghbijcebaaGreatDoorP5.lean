/-
  The statement ExprChecksCardSaid, proved; part 6 of 10 of its proof.
-/
import Derived.Test.YtmemoghbijcebaaGreatDoorP4
set_option linter.all false
set_option linter.unusedSectionVars false
set_option linter.unusedVariables false
set_option linter.unusedSimpArgs false
set_option maxRecDepth 100000
namespace Go.Abs
open Go Go.Proofs
section
variable {α β:Type}
theorem aa {a:α}{k:α→Option β}:opt (some a) k=k a:=rfl
theorem aA {k:Option β}:ax true k=k:=rfl
theorem am {k:IntKind}{n:Int}:aC k (LV.int k n)=some n:=by simp[aC]
theorem ah {s:List UInt8}:aN (LV.str s)=some s:=rfl
theorem ae {b:Bool}:aM (LV.bool b)=some b:=rfl
theorem ao {l:List LV}:aT (.ltup l)=some l:=rfl
theorem ak {α:Type}{a:α}{r:List α}:aw (a::r)=some (a,r):=rfl
theorem av {l:List CV}:bp (.cv (.sl l))=some l:=rfl
theorem au {l:List CV}:bp (.osl l)=some l:=rfl
theorem aq {l:List CV}:gM (.osl l)=some l:=rfl
theorem aj {α:Type}:aO ([]:List α)=some ():=rfl
theorem ad {v:LV}{μ:Mu}{k:LV→Mu→Option β}{p:CV→Mu→Option β}:callK (some (.ret v μ)) k p=k v μ:=rfl
theorem ep {v:CV}{μ:Mu}{k:LV→Mu→Option β}{p:CV→Mu→Option β}:callK (some (.panic v μ)) k p=p v μ:=rfl
theorem bB {x:Int}(h0: -9223372036854775808≤x)(h1:x<9223372036854775808):IntKind.wrap .i64 x=x:=by
 have e1:(2^IntKind.i64.bits:Int)=18446744073709551616:=by decide
 have e2:(2^(IntKind.i64.bits-1):Int)=9223372036854775808:=by decide
 have e3:IntKind.i64.signed=true:=rfl
 unfold IntKind.wrap
 simp only[e1,e2,e3,Bool.true_and,decide_eq_true_eq]
 split<;>omega
theorem MJ {x:Int}(h0:0≤x)(h1:x<256):IntKind.wrap .u8 x=x:=by
 have e1:(2^IntKind.u8.bits:Int)=256:=by decide
 have e3:IntKind.u8.signed=false:=rfl
 unfold IntKind.wrap
 simp only[e1,e3,Bool.false_and]
 simp only[Bool.false_eq_true,if_false]
 omega
theorem mL {l:List UInt8}{i:Nat}:bu l (i:Int)=l[i]? :=by
 simp[bu]
theorem fD {l:List CV}{i:Nat}:bm l (i:Int)=l[i]? :=by
 simp[bm]
theorem gh {a:LV}{r:List LV}:bv E.P 9 (.cells (a::r)) 0=some (strip a):=by kernel_rfl
theorem xF {a b:LV}{r:List LV}:bv E.P 4 (.cells (a::b::r)) 1=some (strip b):=by kernel_rfl
theorem dn {s:List UInt8}:strip (LV.str s)=LV.str s:=rfl
theorem rV {s:Bool}:strip (LV.bool s)=LV.bool s:=rfl
theorem dg: ∀(l:List UInt8),bn (bz l)=some l
 |[]=>rfl
 |b::r=>by
  have ih:=dg r
  have e:bz (b::r)=CV.int .u8 (b.toNat:Int)::bz r:=rfl
  rw[e]
  simp only[bn]
  rw[ih]
  have h:=b.toNat_lt
  have h2:(decide ((0:Int)≤(b.toNat:Int))&&decide ((b.toNat:Int)<256))=true:=by simp;omega
  rw[h2]
  simp[opt]
theorem FW (a b:List UInt8):bz (a++b)=bz a++bz b:=by simp[bz]
theorem jC (a:List UInt8):(bz a).length=a.length:=by simp[bz]
theorem mP: ∀(l:List UInt8),cS 1 (bz l)=true
 |[]=>rfl
 |b::r=>by
  have e:bz (b::r)=CV.int .u8 (b.toNat:Int)::bz r:=rfl
  rw[e]
  simp only[cS]
  have:df 1 (CV.int .u8 (b.toNat:Int))=true:=rfl
  rw[this]
  exact mP r
theorem FQ {a b:List UInt8}(h:a.length+b.length≤1099511627776):dQ 1 (bz a) (bz b)=true:=by
 unfold dQ
 rw[mP,mP,jC,jC]
 simp[bC,h]
def bN (l:List (List UInt8)):List CV:=l.map CV.str
theorem j9 {s:List UInt8}:aN (LV.cv (CV.str s))=some s:=rfl
theorem bJ {n:Nat}(h:n≤1099511627776):bC n=true:=by simp[bC,h]
theorem eA {f:FuncId}{g:d9}{args:List LV}{μ:Mu}{out:Out}(h:E.prim f=some g)(hg:g args μ=some out):(ev E).call f args μ=some out:=by
 refine aJ ?_
 unfold aD
 rw[h]
 exact hg
theorem D3 {s:List UInt8}{μ:Mu}(h:s.length≤1000000):(ev E).call 136 [LV.str s] μ=some (.ret (LV.str (Lib.toUpperD s)) μ):=by
 refine eA (g:=rN) (by kernel_rfl) ?_
 have:fh s=true:=by simp[fh,h]
 simp only[rN,vE,ak,aa,aj,ah,this,aA]
theorem O3 {s:List UInt8}{μ:Mu}{c:UInt8}(hc:c.toNat<128):(ev E).call 225 [LV.str s,LV.str [c]] μ=some (.ret (LV.str (Lib.trimLeftB s c)) μ):=by
 refine eA (g:=o5) (by kernel_rfl) ?_
 have:decide (c.toNat<128)=true:=by simp[hc]
 simp only[o5,jK,ak,aa,aj,ah,Az,this,aA]
theorem O4 {s:List UInt8}{μ:Mu}{c:UInt8}(hc:c.toNat<128)(h:s.length≤1000000):(ev E).call 226 [LV.str s,LV.str [c]] μ=some (.ret (LV.str (Lib.trimRightB s c)) μ):=by
 refine eA (g:=nd) (by kernel_rfl) ?_
 have:(decide (c.toNat<128)&&fh s)=true:=by simp[hc,fh,h]
 simp only[nd,jK,ak,aa,aj,ah,Az,this,aA]
theorem yR {s:List UInt8}{μ:Mu}(h:s.length≤1000000):(ev E).call 133 [LV.str s] μ=some (.ret (yh 201 s) μ):=by
 refine eA (g:=Ci 201) (by kernel_rfl) ?_
 have:fh s=true:=by simp[fh,h]
 simp only[Ci,vE,ak,aa,aj,ah,this,aA]
theorem OY {n:Int}{μ:Mu}(h0: -9223372036854775808≤n)(h1:n≤9223372036854775807):(ev E).call 199 [LV.int .i64 n] μ=some (.ret (LV.str (Lib.itoa n)) μ):=by
 refine eA (g:=zl) (by kernel_rfl) ?_
 have:(decide (-9223372036854775808≤n)&&decide (n≤9223372036854775807))=true:=by simp[h0,h1]
 simp only[zl,ak,aa,aj,am,this,aA]
theorem VK {s p:List UInt8}{μ:Mu}:(ev E).call 211 [LV.str s,LV.str p] μ=some (.ret (LV.str (Lib.trimPrefix s p)) μ):=by
 refine eA (g:=l0) (by kernel_rfl) ?_
 simp only[l0,jK,ak,aa,aj,ah]
theorem VL {s p:List UInt8}{μ:Mu}:(ev E).call 214 [LV.str s,LV.str p] μ=some (.ret (LV.bool (Lib.hasPrefix s p)) μ):=by
 refine eA (g:=nc) (by kernel_rfl) ?_
 simp only[nc,jK,ak,aa,aj,ah]
theorem O1 {s p:List UInt8}{μ:Mu}(h:s.length≤1000000):(ev E).call 213 [LV.str s,LV.str p] μ=some (.ret (LV.int .i64 (Lib.index s p)) μ):=by
 refine eA (g:=zk) (by kernel_rfl) ?_
 have:fh s=true:=by simp[fh,h]
 simp only[zk,jK,ak,aa,aj,ah,this,aA]
theorem VM {s old new:List UInt8}{μ:Mu}(h:s.length≤1000000)(h2:new.length≤1000000)(h1:1≤old.length):(ev E).call 224 [LV.str s,LV.str old,LV.str new] μ=some (.ret (LV.str (Lib.replaceAll s old new)) μ):=by
 refine eA (g:=lZ) (by kernel_rfl) ?_
 have:(fh s&&fh new&&decide (1≤old.length))=true:=by simp[fh,h,h1,h2]
 simp only[lZ,Cj,ak,aa,aj,ah,this,aA]
end
end Go.Abs
