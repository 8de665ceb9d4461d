/-
  The statement ExprTokensCardSaid, proved; part 7 of 11 of its proof.
  Normal forms. Printed by a program.
-/
import Derived.Test.YtmemoghbijcebaaGreatDoorT4
set_option linter.all false
set_option maxRecDepth 1000000
namespace Go.Abs
open Go Go.Proofs
noncomputable section
variable (ρ:Rho)
def adS (a:List CV):SegD:=⟨H4,[(2,0)],cN 4 7,mS [(0,LV.cv (CV.sl a))] []⟩
def af5 (a:List CV)(b:Mu):=(adS a).seg ρ b
def qw (a:Bool)(b:Mu):St:= .ret (mS [(2,LV.bool a)] []) b
def adT (a:List CV):SegD:=⟨H4,[(2,0)],cN 4 15,mS [(0,LV.cv (CV.sl a))] []⟩
def abv (a:List CV)(b:Mu):=(adT a).seg ρ b
def adU (a:List CV)(b:Int):SegD:=⟨H4,[(0,2)],cN 4 244,mS [(0,LV.cv (CV.sl a)),(3,bv b)] []⟩
def abw (a:List CV)(b:Int)(c:Mu):=(adU a b).loop ρ c
def HZ (a:Bool)(b:Mu):St:= .ret (mS [(2,LV.bool a)] []) b
def H0 (a:List CV)(b:Mu):St:= .exit 0 (mS [(0,LV.cv (CV.sl a))] []) b
def qx (a:Bool)(b:Mu):St:= .ret (mS [(2,LV.bool a)] []) b
def CP (a:CV)(b:Mu):St:= .panic a (mS [] []) b
def aao (a b c):(adU a b).rK ρ c=cond (decide (b<(a.length:Int))) (opt (cT a b) λd=>iy (LV.cv d) λf g e=>cond (decide (130<(e.length:Int))) (some (HZ true c)) (abw ρ a (IntKind.wrap .i64 (b+1)) c)) (some (H0 a c)):=bw
def aar (a b):kS ρ H4 [.block 0,.seq (cN 4 31)] [(2,0)] (HZ a b)=some (qx a b):=bw
def aas (a c):kS ρ H4 [.block 0,.seq (cN 4 31)] [(2,0)] (H0 a c)=callK (ρ.call 19 [LV.cv (CV.sl a)] c) (λj k=>opt (cj j) λl=>callK (ρ.call 18 [LV.cv (CV.sl l)] k) (λm n=>opt (ci m) λo=>opt (bG o) λd=>opt (cj d.1) λp=>opt (bG d.2) λe=>opt (bN .i64 e.1) λq=>opt (bG e.2) λf=>opt (bN .i64 f.1) λr=>opt (bZ f.2) λA=>callK (ρ.call 20 [LV.cv (CV.sl a)] n) (λs b=>opt (ci s) λt=>opt (bG t) λg=>opt (cj g.1) λu=>opt (bG g.2) λh=>opt (bN .i64 h.1) λv=>opt (bG h.2) λi=>opt (bN .i64 i.1) λw=>opt (bZ i.2) λB=>cond (decide (r=w)) (cond (decide (q=v)) (callK (ρ.call 15 [LV.cv (CV.sl p),LV.cv (CV.sl u)] b) (λx y=>opt (bO x) λz=>some (qx z y)) (pX CP)) (some (qx false b))) (some (qx false b))) (pX CP)) (pX CP)) (pX CP):=bw
def ahr (a b):(adT a).sK ρ b=opt (abw ρ a 0 b) (kS ρ H4 [.block 0,.seq (cN 4 31)] [(2,0)]):=bw
def aaq (a b):kS ρ H4 [] [(2,0)] (qx a b)=some (qw a b):=bw
def ahq (a b):(adS a).sK ρ b=cond (decide (40<(a.length:Int))) (cond (decide ((a.length:Int)<=300)) (some (qw true b)) (cond (decide (302<(a.length:Int))) (some (qw true b)) (opt (abv ρ a b) (kS ρ H4 [] [(2,0)])))) (cond (decide (302<(a.length:Int))) (some (qw true b)) (opt (abv ρ a b) (kS ρ H4 [] [(2,0)]))):=bw
def aap (a b):kB ρ 4 H4 [] (qw a b)=some (.ret (LV.bool a) b):=bw
def nf4 (a b):bJ E ρ 4 [LV.cv (CV.sl a)] b=callK (ρ.call 12 [] b) (λd c=>opt (bO d) λe=>cond (!e) (some (.ret (LV.bool false) c)) (opt (af5 ρ a c) (kB ρ 4 H4 []))) pP:=bw
def akw (b):bJ E ρ 12 [] b=callK (ρ.call 13 [LV.str [97,32,43,32,98,42,99]] b) (λr s=>opt (ci r) λt=>opt (bG t) λc=>opt (cj c.1) λd=>opt (bG c.2) λe=>opt (bN .i64 e.1) λu=>opt (bZ e.2) λZ=>callK (ρ.call 22 [LV.cv (CV.sl d)] s) (λv w=>opt (ci v) λx=>opt (bG x) λf=>opt (cg f.1) λy=>opt (bG f.2) λg=>opt (bN .i64 g.1) λz=>opt (bZ g.2) λaa=>callK (ρ.call 13 [LV.str [120,40,105,44,50,58,110,41,32,46,108,116,46,32,40,49,46,53,44,45,50,41]] w) (λA B=>opt (ci A) λC=>opt (bG C) λh=>opt (cj h.1) λD=>opt (bG h.2) λi=>opt (bN .i64 i.1) λF=>opt (bZ i.2) λab=>callK (ρ.call 16 [LV.cv (CV.sl D)] B) (λG H=>opt (ci G) λI=>opt (bG I) λj=>opt (cg j.1) λJ=>opt (bG j.2) λk=>opt (bN .i64 k.1) λK=>opt (bZ k.2) λac=>callK (ρ.call 13 [LV.str [40,40,65,42,66,41,41,43,40,67,41]] H) (λL M=>opt (ci L) λN=>opt (bG N) λl=>opt (cj l.1) λO=>opt (bG l.2) λm=>opt (bN .i64 m.1) λP=>opt (bZ m.2) λad=>callK (ρ.call 26 [LV.cv (CV.sl O)] M) (λQ R=>opt (ci Q) λS=>opt (bG S) λn=>opt (cj n.1) λT=>opt (bG n.2) λo=>opt (bN .i64 o.1) λU=>opt (bZ o.2) λae=>callK (ρ.call 16 [LV.cv (CV.sl T)] R) (λV a=>opt (ci V) λW=>opt (bG W) λp=>opt (cg p.1) λX=>opt (bG p.2) λq=>opt (bN .i64 q.1) λY=>opt (bZ q.2) λaf=>cond (decide (u=0)) (cond (decide ((d.length:Int)=5)) (cond (decide (z=0)) (cond (decide (y=([91,65,43,91,66,42,67,93,93]:List UInt8))) (cond (decide (F=0)) (cond (decide (K=0)) (cond (decide (J=([88,40,73,44,50,58,78,41,46,76,84,46,40,49,46,53,44,45,50,41]:List UInt8))) (cond (decide (P=0)) (cond (decide (U=0)) (cond (decide (Y=0)) (some (.ret (LV.bool (decide (X=([65,42,66,43,67]:List UInt8)))) a)) (some (.ret (LV.bool false) a))) (some (.ret (LV.bool false) a))) (some (.ret (LV.bool false) a))) (some (.ret (LV.bool false) a))) (some (.ret (LV.bool false) a))) (some (.ret (LV.bool false) a))) (some (.ret (LV.bool false) a))) (some (.ret (LV.bool false) a))) (some (.ret (LV.bool false) a))) (some (.ret (LV.bool false) a))) pP) pP) pP) pP) pP) pP) pP:=bw
def Ym (a:List CV):SegD:=⟨H13,[(2,2),(3,0)],cN 13 15,mS [(4,LV.cv (CV.sl a))] []⟩
def adC (a:List CV)(b:Mu):=(Ym a).seg ρ b
def yd (a:List CV)(b:Int)(c:Mu):St:= .ret (mS [(2,LV.cv (CV.sl a)),(3,bv b)] []) c
def Yn (a b:List CV)(c:Int):SegD:=⟨H13,[(2,2),(3,0)],cN 13 63,mS [(4,LV.cv (CV.sl a)),(7,LV.cv (CV.sl b)),(8,bv c)] []⟩
def adD (a b:List CV)(c:Int)(d:Mu):=(Yn a b c).seg ρ d
def ye (a:List CV)(b:Int)(c:Mu):St:= .ret (mS [(2,LV.cv (CV.sl a)),(3,bv b)] []) c
def aby (a:CV)(b:Mu):St:= .panic a (mS [] []) b
def afg (b c d a):(Yn b c d).sK ρ a=cond (decide (d<(b.length:Int))) (some (ye [] 7 a)) (some (ye c 0 a)):=bw
def VS (a b c):kS ρ H13 [] [(2,2),(3,0)] (ye a b c)=some (yd a b c):=bw
def aff (a b):(Ym a).sK ρ b=callK (ρ.call 18 [LV.cv (CV.sl a)] b) (λh c=>opt (ci h) λi=>opt (bG i) λd=>opt (cj d.1) λj=>opt (bG d.2) λe=>opt (bN .i64 e.1) λk=>opt (bG e.2) λf=>opt (bN .i64 f.1) λg=>opt (bZ f.2) λl=>cond (!decide (g=0)) (some (yd [] g c)) (opt (adD ρ a j k c) (kS ρ H13 [] [(2,2),(3,0)]))) (pX aby):=bw
def VQ (a b c):kB ρ 13 H13 [] (yd a b c)=some (.ret (LV.ltup [LV.cv (CV.sl a),bv b]) c):=bw
def akx (a b):bJ E ρ 13 [LV.str a] b=callK (ρ.call 51 [LV.str a] b) (λh c=>opt (ci h) λi=>opt (bG i) λd=>opt (cj d.1) λj=>opt (bG d.2) λe=>opt (bN .i64 e.1) λk=>opt (bG e.2) λf=>opt (bN .i64 f.1) λg=>opt (bZ f.2) λl=>cond (!decide (g=0)) (some (.ret (LV.ltup [LV.cv (CV.v (.slice none 0 0)),bv g]) c)) (opt (adC ρ j c) (kB ρ 13 H13 []))) pP:=bw
def Yo (a b:List CV):SegD:=⟨H15,[(4,0)],cN 15 7,mS [(0,LV.cv (CV.sl a)),(1,LV.cv (CV.sl b))] []⟩
def adE (a b:List CV)(c:Mu):=(Yo a b).seg ρ c
def YJ (a b:List CV)(c:Int):SegD:=⟨H15,[],cN 15 116,mS [(0,LV.cv (CV.sl a)),(1,LV.cv (CV.sl b)),(5,bv c)] []⟩
def US (a b:List CV)(c:Int)(d:Mu):=(YJ a b c).loop ρ d
def yy (a:Bool)(b:Mu):St:= .ret (mS [(4,LV.bool a)] []) b
def EF (a:Mu):St:= .exit 0 (mS [] []) a
def Ev (a:Bool)(b:Mu):St:= .ret (mS [(4,LV.bool a)] []) b
def T3 (b c a d):(YJ b c a).rK ρ d=cond (decide (a<(b.length:Int))) (opt (cT b a) λf=>ko (LV.cv f) λg x y z=>opt (cT c a) λh=>ko (LV.cv h) λi A B C=>cond (!decide (g=i)) (some (yy false d)) (opt (cT b a) λj=>ko (LV.cv j) λD k E F=>opt (cT c a) λl=>ko (LV.cv l) λG m H I=>cond (!decide (k=m)) (some (yy false d)) (opt (cT b a) λn=>ko (LV.cv n) λJ K o L=>opt (cT c a) λp=>ko (LV.cv p) λM N q O=>cond (!decide (o=q)) (some (yy false d)) (opt (cT b a) λr=>ko (LV.cv r) λP Q R s=>opt (cT c a) λt=>ko (LV.cv t) λS T U u=>callK (ρ.call 52 [LV.cv (CV.sl s),LV.cv (CV.sl u)] d) (λv e=>opt (bO v) λw=>cond (!w) (some (yy false e)) (US ρ b c (IntKind.wrap .i64 (a+1)) e)) pN)))) (some (EF d)):=bw
def Wi (a):kS ρ H15 [.block 0,.seq (cN 15 15)] [(4,0)] (EF a)=some (Ev true a):=bw
def afh (a b c):(Yo a b).sK ρ c=opt (US ρ a b 0 c) (kS ρ H15 [.block 0,.seq (cN 15 15)] [(4,0)]):=bw
def VU (a b):kB ρ 15 H15 [] (Ev a b)=some (.ret (LV.bool a) b):=bw
def aky (a b c):bJ E ρ 15 [LV.cv (CV.sl a),LV.cv (CV.sl b)] c=cond (!decide ((a.length:Int)=(b.length:Int))) (some (.ret (LV.bool false) c)) (opt (adE ρ a b c) (kB ρ 15 H15 [])):=bw
def Yp (a:List CV):SegD:=⟨H18,[(2,2),(3,0),(4,0)],cN 18 7,mS [(0,LV.cv (CV.sl a))] []⟩
def FK (a:List CV)(b:Mu):=(Yp a).seg ρ b
def YK (a b:List CV)(c d:Int):SegD:=⟨H18,[(0,2)],cN 18 116,mS [(0,LV.cv (CV.sl a)),(15,LV.cv (CV.sl b)),(16,bv c),(17,bv d)] []⟩
def UT (a b:List CV)(c d:Int)(e:Mu):=(YK a b c d).loop ρ e
def yz (a:List CV)(b c:Int)(d:Mu):St:= .ret (mS [(2,LV.cv (CV.sl a)),(3,bv b),(4,bv c)] []) d
def abG (a:CV)(b:Mu):St:= .panic a (mS [] []) b
def yA (a:List CV)(b:Mu):St:= .exit 0 (mS [(0,LV.cv (CV.sl a))] []) b
def uj (a:List CV)(b c:Int)(d:Mu):St:= .ret (mS [(2,LV.cv (CV.sl a)),(3,bv b),(4,bv c)] []) d
def SG (a:List CV):SegD:=⟨H18,[(2,2),(3,0),(4,0)],cN 18 31,mS [(0,LV.cv (CV.sl a))] []⟩
def Lf (a:List CV)(b:Mu):=(SG a).seg ρ b
def SH (a:CV)(b:Int)(c:Lam):SegD:=⟨H18,[(2,2),(3,0),(4,0)],cN 18 127,mS [(8,LV.loc 0 0),(9,LV.cv a),(10,bv b)] c true⟩
def FI (a:CV)(b:Int)(c:Lam)(d:Mu):=(SH a b c).seg ρ d
def rI (a:List CV)(b c:Int)(d:List CV)(e:Int)(f:Mu):St:= .ret (mS [(2,LV.cv (CV.sl a)),(3,bv b),(4,bv c)] [Ob.cells [LV.cv (CV.sl d),bv e]] true) f
def SI (a:CV)(b:Lam):SegD:=⟨H18,[(2,2),(3,0),(4,0)],cN 18 255,mS [(8,LV.loc 0 0),(9,LV.cv a)] b true⟩
def Lg (a:CV)(b:Lam)(c:Mu):=(SI a b).seg ρ c
def SJ (a:CV)(b:Int)(c:List CV)(d:Lam):SegD:=⟨H18,[(2,2),(3,0),(4,0)],cN 18 511,mS [(8,LV.loc 0 0),(9,LV.cv a),(10,bv b),(11,LV.cv (CV.sl c))] d true⟩
def FJ (a:CV)(b:Int)(c:List CV)(d:Lam)(e:Mu):=(SJ a b c d).seg ρ e
def SK (a:List CV)(b:Bool)(c:Lam):SegD:=⟨H18,[(8,0),(11,2)],cN 18 2045,mS [(8,LV.loc 0 0),(11,LV.cv (CV.sl a)),(51,LV.bool b)] c true⟩
def wy (a:List CV)(b:Bool)(c:Lam)(d:Mu):=(SK a b c).seg ρ d
def Ay (a:List CV)(b c:Int)(d:List CV)(e:Int)(f:Mu):St:= .ret (mS [(2,LV.cv (CV.sl a)),(3,bv b),(4,bv c)] [Ob.cells [LV.cv (CV.sl d),bv e]] true) f
def Az (a b:List CV)(c:Int)(d:Mu):St:= .norm (mS [(8,LV.loc 0 0),(11,LV.cv (CV.sl a))] [Ob.cells [LV.cv (CV.sl b),bv c]] true) d
def rJ (a:List CV)(b c:Int)(d:List CV)(e:Int)(f:Mu):St:= .ret (mS [(2,LV.cv (CV.sl a)),(3,bv b),(4,bv c)] [Ob.cells [LV.cv (CV.sl d),bv e]] true) f
def SL (a:List CV)(b:Lam):SegD:=⟨H18,[(2,2),(3,0),(4,0)],cN 18 1023,mS [(8,LV.loc 0 0),(11,LV.cv (CV.sl a))] b true⟩
def Xs (a:List CV)(b:Lam)(c:Mu):=(SL a b).seg ρ c
def AA (a:List CV)(b c:Int)(d:List CV)(e:Int)(f:Mu):St:= .ret (mS [(2,LV.cv (CV.sl a)),(3,bv b),(4,bv c)] [Ob.cells [LV.cv (CV.sl d),bv e]] true) f
def XQ (a:CV)(b:Lam)(c:Mu):St:= .panic a (mS [] b true) c
def vh (a:List CV)(b c:Int)(d:List CV)(e:Int)(f:Mu):St:= .ret (mS [(2,LV.cv (CV.sl a)),(3,bv b),(4,bv c)] [Ob.cells [LV.cv (CV.sl d),bv e]] true) f
def XP (a:CV)(b:Lam)(c:Mu):St:= .panic a (mS [] b true) c
def Ax (a:List CV)(b c:Int)(d:List CV)(e:Int)(f:Mu):St:= .ret (mS [(2,LV.cv (CV.sl a)),(3,bv b),(4,bv c)] [Ob.cells [LV.cv (CV.sl d),bv e]] true) f
def XO (a:CV)(b:Lam)(c:Mu):St:= .panic a (mS [] b true) c
def Ew (a:List CV)(b c:Int)(d:List CV)(e:Int)(f:Mu):St:= .ret (mS [(2,LV.cv (CV.sl a)),(3,bv b),(4,bv c)] [Ob.cells [LV.cv (CV.sl d),bv e]] true) f
def T4 (b c d a e):(YK b c d a).rK ρ e=cond (decide (a<d)) (opt (cT c a) λh=>iy (LV.cv h) λi j k=>callK (ρ.call 55 [LV.cv (CV.agg [bF i,bF j,CV.str k])] e) (λl f=>opt (bN .i64 l) λg=>cond (!decide (g=0)) (some (yz [] 0 g f)) (UT ρ b c d (IntKind.wrap .i64 (a+1)) f)) (pX abG)) (some (yA b e)):=bw
def Wj (a b c d):kS ρ H18 [.block 0,.seq (cN 18 15)] [(2,2),(3,0),(4,0)] (yz a b c d)=some (uj a b c d):=bw
def Nx (d:List CV)(e:Bool)(a:List CV)(b:Int)(c:Mu):(SK d e [Ob.cells [LV.cv (CV.sl a),bv b]]).sK ρ c=cond (e) (some (Ay [] 0 8 a b c)) (some (Az d a b c)):=bw
def DR (a b c d e f):kS ρ H18 [.seq (cN 18 1023)] [(2,2),(3,0),(4,0)] (Ay a b c d e f)=some (rJ a b c d e f):=bw
def acA (b c:List CV)(a:Int)(d:Mu):(SL b [Ob.cells [LV.cv (CV.sl c),bv a]]).sK ρ d=some (AA b a 0 c a d):=bw
def Qx (a b c d e f):kS ρ H18 [] [(2,2),(3,0),(4,0)] (AA a b c d e f)=some (rJ a b c d e f):=bw
def Qw (a b c d):kS ρ H18 [.seq (cN 18 1023)] [(2,2),(3,0),(4,0)] (Az a b c d)=opt (Xs ρ a [Ob.cells [LV.cv (CV.sl b),bv c]] d) (kS ρ H18 [] [(2,2),(3,0),(4,0)]):=bw
def Fl (e:CV)(f:Int)(a b:List CV)(c:Int)(d:Mu):(SJ e f a [Ob.cells [LV.cv (CV.sl b),bv c]]).sK ρ d=cond (!decide (f=0)) (opt (wy ρ a true [Ob.cells [LV.cv (CV.sl b),bv c]] d) (kS ρ H18 [.seq (cN 18 1023)] [(2,2),(3,0),(4,0)])) (callK (ρ.call 58 [LV.cv e] (d++[[Ob.cells [LV.cv (CV.sl b),bv c]]])) (λi j=>opt (eE j) λg=>opt (bO i) λk=>opt (wy ρ a k g.2 g.1) (kS ρ H18 [.seq (cN 18 1023)] [(2,2),(3,0),(4,0)])) (λl m=>opt (eE m) λh=>some (XQ l h.2 h.1))):=bw
def DQ (a b c d e f):kS ρ H18 [] [(2,2),(3,0),(4,0)] (rJ a b c d e f)=some (vh a b c d e f):=bw
def Nw (a:CV)(b:List CV)(c:Int)(d:Mu):(SI a [Ob.cells [LV.cv (CV.sl b),bv c]]).sK ρ d=callK (ρ.call 57 [LV.cv a] (d++[[Ob.cells [LV.cv (CV.sl b),bv c]]])) (λi j=>opt (eE j) λe=>opt (ci i) λk=>opt (bG k) λf=>opt (cj f.1) λl=>opt (bG f.2) λg=>opt (bN .i64 g.1) λm=>opt (bZ g.2) λp=>opt (FJ ρ a m l e.2 e.1) (kS ρ H18 [] [(2,2),(3,0),(4,0)])) (λn o=>opt (eE o) λh=>some (XP n h.2 h.1)):=bw
def Qv (a b c d e f):kS ρ H18 [] [(2,2),(3,0),(4,0)] (vh a b c d e f)=some (rI a b c d e f):=bw
def Nv (e:CV)(a:Int)(b:List CV)(c:Int)(d:Mu):(SH e a [Ob.cells [LV.cv (CV.sl b),bv c]]).sK ρ d=cond (!decide (a=0)) (some (rI [] 0 a b c d)) (opt (Lg ρ e [Ob.cells [LV.cv (CV.sl b),bv c]] d) (kS ρ H18 [] [(2,2),(3,0),(4,0)])):=bw
def DP (a b c d e f):kS ρ H18 [] [(2,2),(3,0),(4,0)] (rI a b c d e f)=some (Ax a b c d e f):=bw
def Nu (b a):(SG b).sK ρ a=callK (ρ.call 56 [LV.cv (CV.ref (List.length a) 0 0)] (a++[[Ob.cells [LV.cv (CV.sl b),bv 0]]])) (λg h=>opt (eE h) λc=>opt (ci g) λi=>opt (bG i) λd=>opt (cW d.1) λj=>opt (bG d.2) λe=>opt (bN .i64 e.1) λk=>opt (bZ e.2) λn=>opt (FI ρ j k c.2 c.1) (kS ρ H18 [] [(2,2),(3,0),(4,0)])) (λl m=>opt (eE m) λf=>some (XO l f.2 f.1)):=bw
def Qu (a b c d e f):kS ρ H18 [] [(2,2),(3,0),(4,0)] (Ax a b c d e f)=some (Ew a b c d e f):=bw
def G8 (a b):kS ρ H18 [.block 0,.seq (cN 18 15)] [(2,2),(3,0),(4,0)] (yA a b)=cond (decide ((a.length:Int)=0)) (some (uj [] 0 17 b)) (opt (Lf ρ a b) (kS ρ H18 [] [(2,2),(3,0),(4,0)])):=bw
def afi (a b):(Yp a).sK ρ b=opt (UT ρ a a (a.length:Int) 0 b) (kS ρ H18 [.block 0,.seq (cN 18 15)] [(2,2),(3,0),(4,0)]):=bw
def G5 (a b c d):kB ρ 18 H18 [] (uj a b c d)=some (.ret (LV.ltup [LV.cv (CV.sl a),bv b,bv c]) d):=bw
def VV (a b c e f d):kB ρ 18 H18 [] (Ew a b c e f d)=bD (fj (List.length d) (LV.ltup [LV.cv (CV.sl a),bv b,bv c])) (some (.ret (LV.ltup [LV.cv (CV.sl a),bv b,bv c]) d)):=bw
def ahk (a b):bJ E ρ 18 [LV.cv (CV.sl a)] b=cond (decide (300<(a.length:Int))) (some (.ret (LV.ltup [LV.cv (CV.v (.slice none 0 0)),bv 0,bv 8]) b)) (opt (FK ρ a b) (kB ρ 18 H18 [])):=bw
def akz (a b):bJ E ρ 19 [LV.cv (CV.sl a)] b=bD (jw a&&eq 3 [] a) (some (.ret (LV.osl ([]++a)) b)):=bw
def Yq (a:List CV):SegD:=⟨H20,[(2,2),(3,0),(4,0)],cN 20 7,mS [(0,LV.cv (CV.sl a))] []⟩
def KG (a:List CV)(b:Mu):=(Yq a).seg ρ b
def Ex (a:List CV)(b c:Int)(d:Mu):St:= .ret (mS [(2,LV.cv (CV.sl a)),(3,bv b),(4,bv c)] []) d
def Yr (a:List CV):SegD:=⟨H20,[(2,2),(3,0),(4,0)],cN 20 15,mS [(0,LV.cv (CV.sl a))] []⟩
def UD (a:List CV)(b:Mu):=(Yr a).seg ρ b
def Ys (a:List CV)(b:Bool)(c:Lam):SegD:=⟨H20,[(2,2),(3,0),(4,0)],cN 20 63,mS [(7,LV.loc 0 0),(8,LV.cv (CV.sl a)),(9,LV.bool b)] c true⟩
def UE (a:List CV)(b:Bool)(c:Lam)(d:Mu):=(Ys a b c).seg ρ d
def uk (a:List CV)(b c:Int)(d:List CV)(e:Int)(f:Mu):St:= .ret (mS [(2,LV.cv (CV.sl a)),(3,bv b),(4,bv c)] [Ob.cells [LV.cv (CV.sl d),bv e]] true) f
def SX (a:List CV)(b:Lam):SegD:=⟨H20,[(2,2),(3,0),(4,0)],cN 20 127,mS [(7,LV.loc 0 0),(8,LV.cv (CV.sl a))] b true⟩
def Xx (a:List CV)(b:Lam)(c:Mu):=(SX a b).seg ρ c
def SY (a:List CV)(b:Bool)(c:Lam):SegD:=⟨H20,[(7,0),(8,2)],cN 20 509,mS [(7,LV.loc 0 0),(8,LV.cv (CV.sl a)),(37,LV.bool b)] c true⟩
def FM (a:List CV)(b:Bool)(c:Lam)(d:Mu):=(SY a b c).seg ρ d
def AK (a:List CV)(b c:Int)(d:List CV)(e:Int)(f:Mu):St:= .ret (mS [(2,LV.cv (CV.sl a)),(3,bv b),(4,bv c)] [Ob.cells [LV.cv (CV.sl d),bv e]] true) f
def AL (a b:List CV)(c:Int)(d:Mu):St:= .norm (mS [(7,LV.loc 0 0),(8,LV.cv (CV.sl a))] [Ob.cells [LV.cv (CV.sl b),bv c]] true) d
def vn (a:List CV)(b c:Int)(d:List CV)(e:Int)(f:Mu):St:= .ret (mS [(2,LV.cv (CV.sl a)),(3,bv b),(4,bv c)] [Ob.cells [LV.cv (CV.sl d),bv e]] true) f
def SZ (a:List CV)(b:Lam):SegD:=⟨H20,[(2,2),(3,0),(4,0)],cN 20 255,mS [(7,LV.loc 0 0),(8,LV.cv (CV.sl a))] b true⟩
def Xy (a:List CV)(b:Lam)(c:Mu):=(SZ a b).seg ρ c
def AM (a:List CV)(b c:Int)(d:List CV)(e:Int)(f:Mu):St:= .ret (mS [(2,LV.cv (CV.sl a)),(3,bv b),(4,bv c)] [Ob.cells [LV.cv (CV.sl d),bv e]] true) f
def XT (a:CV)(b:Lam)(c:Mu):St:= .panic a (mS [] b true) c
def yo (a:List CV)(b c:Int)(d:List CV)(e:Int)(f:Mu):St:= .ret (mS [(2,LV.cv (CV.sl a)),(3,bv b),(4,bv c)] [Ob.cells [LV.cv (CV.sl d),bv e]] true) f
def abz (a:CV)(b:Lam)(c:Mu):St:= .panic a (mS [] b true) c
def yn (a:List CV)(b c:Int)(d:List CV)(e:Int)(f:Mu):St:= .ret (mS [(2,LV.cv (CV.sl a)),(3,bv b),(4,bv c)] [Ob.cells [LV.cv (CV.sl d),bv e]] true) f
def Ny (d:List CV)(e:Bool)(a:List CV)(b:Int)(c:Mu):(SY d e [Ob.cells [LV.cv (CV.sl a),bv b]]).sK ρ c=cond (e) (some (AK [] 0 8 a b c)) (some (AL d a b c)):=bw
def DV (a b c d e f):kS ρ H20 [.seq (cN 20 255)] [(2,2),(3,0),(4,0)] (AK a b c d e f)=some (vn a b c d e f):=bw
def acM (b c:List CV)(a:Int)(d:Mu):(SZ b [Ob.cells [LV.cv (CV.sl c),bv a]]).sK ρ d=some (AM b a 0 c a d):=bw
def QP (a b c d e f):kS ρ H20 [] [(2,2),(3,0),(4,0)] (AM a b c d e f)=some (vn a b c d e f):=bw
def QO (a b c d):kS ρ H20 [.seq (cN 20 255)] [(2,2),(3,0),(4,0)] (AL a b c d)=opt (Xy ρ a [Ob.cells [LV.cv (CV.sl b),bv c]] d) (kS ρ H20 [] [(2,2),(3,0),(4,0)]):=bw
def Fo (a b:List CV)(c:Int)(d:Mu):(SX a [Ob.cells [LV.cv (CV.sl b),bv c]]).sK ρ d=cond (decide (120<(a.length:Int))) (opt (FM ρ a true [Ob.cells [LV.cv (CV.sl b),bv c]] d) (kS ρ H20 [.seq (cN 20 255)] [(2,2),(3,0),(4,0)])) (callK (ρ.call 61 [LV.cv (CV.sl a)] (d++[[Ob.cells [LV.cv (CV.sl b),bv c]]])) (λg h=>opt (eE h) λe=>opt (bO g) λi=>opt (FM ρ a i e.2 e.1) (kS ρ H20 [.seq (cN 20 255)] [(2,2),(3,0),(4,0)])) (λj k=>opt (eE k) λf=>some (XT j f.2 f.1))):=bw
def QN (a b c d e f):kS ρ H20 [] [(2,2),(3,0),(4,0)] (vn a b c d e f)=some (uk a b c d e f):=bw
def TX (d:List CV)(e:Bool)(a:List CV)(b:Int)(c:Mu):(Ys d e [Ob.cells [LV.cv (CV.sl a),bv b]]).sK ρ c=cond (!e) (some (uk [] 0 7 a b c)) (opt (Xx ρ d [Ob.cells [LV.cv (CV.sl a),bv b]] c) (kS ρ H20 [] [(2,2),(3,0),(4,0)])):=bw
def G6 (a b c d e f):kS ρ H20 [] [(2,2),(3,0),(4,0)] (uk a b c d e f)=some (yo a b c d e f):=bw
def TW (b a):(Yr b).sK ρ a=callK (ρ.call 60 [LV.cv (CV.ref (List.length a) 0 0),bv 1] (a++[[Ob.cells [LV.cv (CV.sl b),bv 0]]])) (λg h=>opt (eE h) λc=>opt (ci g) λi=>opt (bG i) λd=>opt (cj d.1) λj=>opt (bG d.2) λe=>opt (bO e.1) λk=>opt (bZ e.2) λn=>opt (UE ρ j k c.2 c.1) (kS ρ H20 [] [(2,2),(3,0),(4,0)])) (λl m=>opt (eE m) λf=>some (abz l f.2 f.1)):=bw
def VY (a b c d e f):kS ρ H20 [] [(2,2),(3,0),(4,0)] (yo a b c d e f)=some (yn a b c d e f):=bw
def TV (a b):(Yq a).sK ρ b=cond (decide ((a.length:Int)=0)) (some (Ex [] 0 17 b)) (opt (UD ρ a b) (kS ρ H20 [] [(2,2),(3,0),(4,0)])):=bw
def VW (a b c d):kB ρ 20 H20 [] (Ex a b c d)=some (.ret (LV.ltup [LV.cv (CV.sl a),bv b,bv c]) d):=bw
def VX (a b c e f d):kB ρ 20 H20 [] (yn a b c e f d)=bD (fj (List.length d) (LV.ltup [LV.cv (CV.sl a),bv b,bv c])) (some (.ret (LV.ltup [LV.cv (CV.sl a),bv b,bv c]) d)):=bw
def ahl (a b):bJ E ρ 20 [LV.cv (CV.sl a)] b=callK (ρ.call 59 [LV.cv (CV.sl a)] b) (λg c=>opt (ci g) λh=>opt (bG h) λd=>opt (bN .i64 d.1) λi=>opt (bG d.2) λe=>opt (bN .i64 e.1) λf=>opt (bZ e.2) λj=>cond (!decide (f=0)) (some (.ret (LV.ltup [LV.cv (CV.v (.slice none 0 0)),bv 0,bv f]) c)) (opt (KG ρ a c) (kB ρ 20 H20 []))) pP:=bw
def Yt (a:List UInt8):SegD:=⟨H25,[(2,2),(3,0),(4,0)],cN 25 7,mS [(0,LV.str a)] []⟩
def adF (a:List UInt8)(b:Mu):=(Yt a).seg ρ b
def YL (a:List UInt8)(b:List CV)(c:Int):SegD:=⟨H25,[(6,1)],cN 25 248,mS [(0,LV.str a),(6,LV.osl b),(7,bv c)] []⟩
def CI (a:List UInt8)(b:List CV)(c:Int)(d:Mu):=(YL a b c).loop ρ d
def Yu (a:List UInt8)(b:List CV)(c:Int):SegD:=⟨H25,[(0,0),(6,1),(7,0)],cN 25 1989,mS [(0,LV.str a),(6,LV.osl b),(7,bv c)] []⟩
def UF (a:List UInt8)(b:List CV)(c:Int)(d:Mu):=(Yu a b c).seg ρ d
def Ey (a:List CV)(b c:Int)(d:Mu):St:= .ret (mS [(2,LV.cv (CV.sl a)),(3,bv b),(4,bv c)] []) d
def S0 (a:List UInt8)(b:List CV)(c d:Int)(e:List UInt8)(f g:Int):SegD:=⟨H25,[(0,0),(6,1),(7,0)],cN 25 7959,mS [(0,LV.str a),(6,LV.osl b),(8,LV.loc 0 0)] [Ob.cells [bv c,bv d,LV.str e,bv f,bv g]]⟩
def Xz (a:List UInt8)(b:List CV)(c d:Int)(e:List UInt8)(f g:Int)(h:Mu):=(S0 a b c d e f g).seg ρ h
def AN (a:List UInt8)(b:List CV)(c:Int)(d:Mu):St:= .norm (mS [(0,LV.str a),(6,LV.osl b),(7,bv c)] []) d
def Ez (a:List UInt8)(b:List CV)(c:Int)(d:Mu):St:= .norm (mS [(0,LV.str a),(6,LV.osl b),(7,bv c)] []) d
def abA (a:CV)(b:Mu):St:= .panic a (mS [] []) b
def EG (a:List CV)(b c:Int)(d:Mu):St:= .ret (mS [(2,LV.cv (CV.sl a)),(3,bv b),(4,bv c)] []) d
def EH (a:List CV)(b:Mu):St:= .exit 0 (mS [(6,LV.osl a)] []) b
def ul (a:List CV)(b c:Int)(d:Mu):St:= .ret (mS [(2,LV.cv (CV.sl a)),(3,bv b),(4,bv c)] []) d
def acN (e a b c d f h g):(S0 e a b c d f h).sK ρ g=bD (eq 3 a [CV.agg [bF b,bF c,CV.str d]]) (some (AN e (a++[CV.agg [bF b,bF c,CV.str d]]) f g)):=bw
def QQ (a b c d):kS ρ H25 [] [(0,0),(6,1),(7,0)] (AN a b c d)=some (Ez a b c d):=bw
def TY (a d b e):(Yu a d b).sK ρ e=callK (ρ.call 63 [LV.str a,bv b] e) (λg f=>Hj g λh i j k c=>cond (!decide (c=0)) (some (Ey [] b c f)) (opt (Xz ρ a d h i j k c f) (kS ρ H25 [] [(0,0),(6,1),(7,0)]))) (pX abA):=bw
def V1 (a b c d):kR ρ H25 [.block 1] [(6,1)] (cN 25 248) (Ey a b c d)=some (EG a b c d):=bw
def V2 (a b c d):kR ρ H25 [.block 1] [(6,1)] (cN 25 248) (Ez a b c d)=CI ρ a b c d:=bw
def Iy (a c b d):(YL a c b).rK ρ d=cond (decide (b<(a.length:Int))) (opt (dm a b) λe=>cond (decide ((e.toNat:Int)=32)) (CI ρ a c (IntKind.wrap .i64 (b+1)) d) (opt (UF ρ a c b d) (kR ρ H25 [.block 1] [(6,1)] (cN 25 248)))) (some (EH c d)):=bw
def Wk (a b c d):kS ρ H25 [.block 0,.seq (cN 25 63)] [(2,2),(3,0),(4,0)] (EG a b c d)=some (ul a b c d):=bw
def Wl (a b):kS ρ H25 [.block 0,.seq (cN 25 63)] [(2,2),(3,0),(4,0)] (EH a b)=cond (decide (300<(a.length:Int))) (some (ul [] 0 8 b)) (some (ul a (a.length:Int) 0 b)):=bw
def afj (a b):(Yt a).sK ρ b=opt (CI ρ a [] 0 b) (kS ρ H25 [.block 0,.seq (cN 25 63)] [(2,2),(3,0),(4,0)]):=bw
def VZ (a b c d):kB ρ 25 H25 [] (ul a b c d)=some (.ret (LV.ltup [LV.cv (CV.sl a),bv b,bv c]) d):=bw
def akA (a b):bJ E ρ 25 [LV.str a] b=callK (ρ.call 62 [LV.str a] b) (λe c=>opt (bN .i64 e) λd=>cond (!decide (d=0)) (some (.ret (LV.ltup [LV.cv (CV.v (.slice none 0 0)),bv 0,bv d]) c)) (opt (adF ρ a c) (kB ρ 25 H25 []))) pP:=bw
def akB (a c d b):bJ E ρ 30 [bv a,bv c,bv d] b=cond (decide (a<c)) (some (.ret (LV.bool false) b)) (some (.ret (LV.bool (!(decide (d<a)))) b)):=bw
def Yv (a b:Int)(c:Bool):SegD:=⟨H32,[(0,0)],cN 32 215,mS [(0,bv a),(3,bv b),(6,LV.bool c)] []⟩
def KH (a b:Int)(c:Bool)(d:Mu):=(Yv a b c).seg ρ d
def um (a:Int)(b:Mu):St:= .ret (mS [(2,bv a)] []) b
def S1 (a b:Int)(c:Bool):SegD:=⟨H32,[(0,0)],cN 32 863,mS [(0,bv a),(3,bv b),(9,LV.bool c)] []⟩
def wB (a b:Int)(c:Bool)(d:Mu):=(S1 a b c).seg ρ d
def kA (a:Int)(b:Mu):St:= .ret (mS [(2,bv a)] []) b
def vo (a:Int)(b:Mu):St:= .norm (mS [(0,bv a)] []) b
def yp (a:Int)(b:Mu):St:= .norm (mS [(0,bv a)] []) b
def acO (c b d a):(S1 c b d).sK ρ a=cond (d) (some (kA 7 a)) (cond (decide (b=14)) (some (kA 6 a)) (cond (decide (b=8)) (some (kA 4 a)) (cond (decide (b=21)) (some (kA 3 a)) (cond (decide (b=22)) (some (kA 2 a)) (cond (decide (b=23)) (cond (decide (b=23)) (some (kA 1 a)) (some (vo c a))) (cond (decide (b=24)) (some (kA 1 a)) (some (vo c a)))))))):=bw
def QS (a b):kS ρ H32 [] [(0,0)] (kA a b)=some (um a b):=bw
def QT (a b):kS ρ H32 [] [(0,0)] (vo a b)=some (yp a b):=bw
def afk (c a d b):(Yv c a d).sK ρ b=cond (d) (some (um 8 b)) (cond (decide (a=6)) (opt (wB ρ c a (decide (a=6)) b) (kS ρ H32 [] [(0,0)])) (cond (decide (a=7)) (opt (wB ρ c a (decide (a=7)) b) (kS ρ H32 [] [(0,0)])) (cond (decide (a=12)) (opt (wB ρ c a (decide (a=12)) b) (kS ρ H32 [] [(0,0)])) (opt (wB ρ c a (decide (a=13)) b) (kS ρ H32 [] [(0,0)]))))):=bw
def V3 (a b):kB ρ 32 H32 [.block 0,.seq (cN 32 7)] (um a b)=some (.ret (bv a) b):=bw
def V4 (a b):kB ρ 32 H32 [.block 0,.seq (cN 32 7)] (yp a b)=callK (ρ.call 30 [bv a,bv 15,bv 20] b) (λd c=>opt (bO d) λe=>cond (e) (some (.ret (bv 5) c)) (some (.ret (bv 10) c))) pP:=bw
def akC (a b):bJ E ρ 32 [bv a] b=cond (decide (a=9)) (some (.ret (bv 9) b)) (cond (decide (a=10)) (opt (KH ρ a a (decide (a=10)) b) (kB ρ 32 H32 [.block 0,.seq (cN 32 7)])) (opt (KH ρ a a (decide (a=11)) b) (kB ρ 32 H32 [.block 0,.seq (cN 32 7)]))):=bw
def akD (b a):bJ E ρ 42 [LV.bool b] a=cond (b) (some (.ret (bv 1) a)) (some (.ret (bv 0) a)):=bw
def Yw (a:List UInt8):SegD:=⟨H44,[(2,0)],cN 44 7,mS [(0,LV.str a)] []⟩
def adG (a:List UInt8)(b:Mu):=(Yw a).seg ρ b
def YM (a:List UInt8)(b:Int):SegD:=⟨H44,[],cN 44 116,mS [(0,LV.str a),(3,bv b)] []⟩
def KJ (a:List UInt8)(b:Int)(c:Mu):=(YM a b).loop ρ c
def EI (a:Bool)(b:Mu):St:= .ret (mS [(2,LV.bool a)] []) b
def EJ (a:Mu):St:= .exit 0 (mS [] []) a
def yq (a:Bool)(b:Mu):St:= .ret (mS [(2,LV.bool a)] []) b
def T5 (a b c):(YM a b).rK ρ c=cond (decide (b<(a.length:Int))) (opt (dm a b) λd=>cond (decide (97<=(d.toNat:Int))) (opt (dm a b) λe=>cond (decide ((e.toNat:Int)<=122)) (some (EI false c)) (KJ ρ a (IntKind.wrap .i64 (b+1)) c)) (KJ ρ a (IntKind.wrap .i64 (b+1)) c)) (some (EJ c)):=bw
def Wm (a b):kS ρ H44 [.block 0,.seq (cN 44 15)] [(2,0)] (EI a b)=some (yq a b):=bw
def Wn (a):kS ρ H44 [.block 0,.seq (cN 44 15)] [(2,0)] (EJ a)=some (yq true a):=bw
def afl (a b):(Yw a).sK ρ b=opt (KJ ρ a 0 b) (kS ρ H44 [.block 0,.seq (cN 44 15)] [(2,0)]):=bw
def V5 (a b):kB ρ 44 H44 [] (yq a b)=some (.ret (LV.bool a) b):=bw
def akE (a b):bJ E ρ 44 [LV.str a] b=callK (ρ.call 81 [LV.str a] b) (λd c=>opt (bO d) λe=>cond (!e) (some (.ret (LV.bool false) c)) (opt (adG ρ a c) (kB ρ 44 H44 []))) pP:=bw
def YN (a b:List CV)(c d e:Int)(f:List UInt8)(g:List CV)(h i:Int)(j:List UInt8)(k:List CV):SegD:=⟨H45,[(2,0),(5,1),(6,0)],cN 45 244,mS [(1,LV.cv (CV.sl a)),(2,LV.loc 0 0),(5,LV.osl b),(6,LV.loc 1 0),(7,bv c)] [Ob.cells [bv d,bv e,LV.str f,LV.cv (CV.sl g)],Ob.cells [bv h,bv i,LV.str j,LV.osl k]]⟩
def CJ (a b:List CV)(c d e:Int)(f:List UInt8)(g:List CV)(h i:Int)(j:List UInt8)(k:List CV)(l:Mu):=(YN a b c d e f g h i j k).loop ρ l
def Yx (a b:List CV)(c d e:Int)(f:List UInt8)(g:List CV)(h i:Int)(j:List UInt8)(k:List CV):SegD:=⟨H45,[(1,2),(2,0),(5,1),(6,0),(7,0)],cN 45 3913,mS [(1,LV.cv (CV.sl a)),(2,LV.loc 0 0),(5,LV.osl b),(6,LV.loc 1 0),(7,bv c)] [Ob.cells [bv d,bv e,LV.str f,LV.cv (CV.sl g)],Ob.cells [bv h,bv i,LV.str j,LV.osl k]]⟩
def adH (a b:List CV)(c d e:Int)(f:List UInt8)(g:List CV)(h i:Int)(j:List UInt8)(k:List CV)(l:Mu):=(Yx a b c d e f g h i j k).seg ρ l
def Tv (a b:List CV)(c d e f g:Int)(h:List UInt8)(i:List CV)(j k:Int)(l:List UInt8)(m:List CV):SegD:=⟨H45,[(1,2),(2,0),(5,1),(6,0),(7,0)],cN 45 125236,mS [(1,LV.cv (CV.sl a)),(2,LV.loc 0 0),(5,LV.osl b),(6,LV.loc 1 0),(7,bv c),(8,bv d),(9,bv e)] [Ob.cells [bv f,bv g,LV.str h,LV.cv (CV.sl i)],Ob.cells [bv j,bv k,LV.str l,LV.osl m]]⟩
def LH (a b:List CV)(c d e f g:Int)(h:List UInt8)(i:List CV)(j k:Int)(l:List UInt8)(m:List CV)(n:Mu):=(Tv a b c d e f g h i j k l m).loop ρ n
def Tw (a b:List CV)(c d e f g h:Int)(i:List UInt8)(j:List CV)(k l:Int)(m:List UInt8)(n:List CV)(o p:Int)(q:List UInt8)(r:List CV):SegD:=⟨H45,[(1,2),(2,0),(5,1),(6,0),(7,0),(8,0),(9,0),(10,0)],cN 45 32060564,mS [(1,LV.cv (CV.sl a)),(2,LV.loc 0 0),(5,LV.osl b),(6,LV.loc 1 0),(7,bv c),(8,bv d),(9,bv e),(10,LV.loc 2 0),(11,bv f)] [Ob.cells [bv g,bv h,LV.str i,LV.cv (CV.sl j)],Ob.cells [bv k,bv l,LV.str m,LV.osl n],Ob.cells [bv o,bv p,LV.str q,LV.osl r]]⟩
def LI (a b:List CV)(c d e f g h:Int)(i:List UInt8)(j:List CV)(k l:Int)(m:List UInt8)(n:List CV)(o p:Int)(q:List UInt8)(r:List CV)(s:Mu):=(Tw a b c d e f g h i j k l m n o p q r).loop ρ s
def S2 (a b:List CV)(c d e f g h i:Int)(j:List UInt8)(k:List CV)(l m:Int)(n:List UInt8)(o:List CV)(p q:Int)(r:List UInt8)(s:List CV):SegD:=⟨H45,[(1,2),(2,0),(5,1),(6,0),(7,0),(8,0),(9,0),(10,0),(11,0)],cN 45 1025938067,mS [(1,LV.cv (CV.sl a)),(2,LV.loc 0 0),(5,LV.osl b),(6,LV.loc 1 0),(7,bv c),(8,bv d),(9,bv e),(10,LV.loc 2 0),(11,bv f),(12,bv g)] [Ob.cells [bv h,bv i,LV.str j,LV.cv (CV.sl k)],Ob.cells [bv l,bv m,LV.str n,LV.osl o],Ob.cells [bv p,bv q,LV.str r,LV.osl s]]⟩
def Lo (a b:List CV)(c d e f g h i:Int)(j:List UInt8)(k:List CV)(l m:Int)(n:List UInt8)(o:List CV)(p q:Int)(r:List UInt8)(s:List CV)(t:Mu):=(S2 a b c d e f g h i j k l m n o p q r s).seg ρ t
def AO (a b:List CV)(c d e f g h:Int)(i:List UInt8)(j:List CV)(k l:Int)(m:List UInt8)(n:List CV)(o p:Int)(q:List UInt8)(r:List CV)(s:Mu):St:= .norm (mS [(1,LV.cv (CV.sl a)),(2,LV.loc 0 0),(5,LV.osl b),(6,LV.loc 1 0),(7,bv c),(8,bv d),(9,bv e),(10,LV.loc 2 0),(11,bv f)] [Ob.cells [bv g,bv h,LV.str i,LV.cv (CV.sl j)],Ob.cells [bv k,bv l,LV.str m,LV.osl n],Ob.cells [bv o,bv p,LV.str q,LV.osl r]]) s
def Bc (a b:List CV)(c d e f g:Int)(h:List UInt8)(i:List CV)(j k:Int)(l:List UInt8)(m:List CV)(n o:Int)(p:List UInt8)(q:List CV)(r:Mu):St:= .exit 4 (mS [(1,LV.cv (CV.sl a)),(2,LV.loc 0 0),(5,LV.osl b),(6,LV.loc 1 0),(7,bv c),(8,bv d),(9,bv e),(10,LV.loc 2 0)] [Ob.cells [bv f,bv g,LV.str h,LV.cv (CV.sl i)],Ob.cells [bv j,bv k,LV.str l,LV.osl m],Ob.cells [bv n,bv o,LV.str p,LV.osl q]]) r
def Bb (a b:List CV)(c d e:Int)(f:List UInt8)(g:List CV)(h i:Int)(j:List UInt8)(k:List CV)(l:Mu):St:= .exit 2 (mS [(1,LV.cv (CV.sl a)),(2,LV.loc 0 0),(5,LV.osl b),(6,LV.loc 1 0),(7,bv c)] [Ob.cells [bv d,bv e,LV.str f,LV.cv (CV.sl g)],Ob.cells [bv h,bv i,LV.str j,LV.osl k]]) l
def EA (a b:List CV)(c d e:Int)(f:List UInt8)(g:List CV)(h i:Int)(j:List UInt8)(k:List CV)(l:Mu):St:= .norm (mS [(1,LV.cv (CV.sl a)),(2,LV.loc 0 0),(5,LV.osl b),(6,LV.loc 1 0),(7,bv c)] [Ob.cells [bv d,bv e,LV.str f,LV.cv (CV.sl g)],Ob.cells [bv h,bv i,LV.str j,LV.osl k]]) l
def EK (a:List CV)(b c:Int)(d:List UInt8)(e:List CV)(f g:Int)(h:List UInt8)(i:List CV)(j:Mu):St:= .exit 0 (mS [(2,LV.loc 0 0),(5,LV.osl a),(6,LV.loc 1 0)] [Ob.cells [bv b,bv c,LV.str d,LV.cv (CV.sl e)],Ob.cells [bv f,bv g,LV.str h,LV.osl i]]) j
def acP (c d e f g h a i j k l m n o p q r s b t):(S2 c d e f g h a i j k l m n o p q r s b).sK ρ t=bD (eq 1 b [bF a]) (some (AO c d e f g h i j k l m n o p q r s (b++[bF a]) t)):=bw
def DW (a b c d e f g h i j k l m n o p q r s):kR ρ H45 [.block 5,.seq (cN 45 128242259)] [(1,2),(2,0),(5,1),(6,0),(7,0),(8,0),(9,0),(10,0)] (cN 45 32060564) (AO a b c d e f g h i j k l m n o p q r s)=LI ρ a b c d e (IntKind.wrap .i64 (f+1)) g h i j k l m n o p q r s:=bw
def NS (a f b d c e g h i j k l m n o p q r s):(Tw a f b d c e g h i j k l m n o p q r).rK ρ s=opt (cT a b) λu=>opt (cj (LV.cv u)) λv=>opt (cT v c) λw=>ko (LV.cv w) λD E F x=>cond (decide (e<(x.length:Int))) (opt (cT a b) λy=>opt (cj (LV.cv y)) λz=>opt (cT z c) λA=>ko (LV.cv A) λG H I B=>opt (cT B e) λC=>opt (bN .i64 (LV.cv C)) λt=>cond (!decide (t=(-1))) (opt (Lo ρ a f b d c e (IntKind.wrap .i64 (t+d)) g h i j k l m n o p q r s) (kR ρ H45 [.block 5,.seq (cN 45 128242259)] [(1,2),(2,0),(5,1),(6,0),(7,0),(8,0),(9,0),(10,0)] (cN 45 32060564))) (opt (Lo ρ a f b d c e t g h i j k l m n o p q r s) (kR ρ H45 [.block 5,.seq (cN 45 128242259)] [(1,2),(2,0),(5,1),(6,0),(7,0),(8,0),(9,0),(10,0)] (cN 45 32060564)))) (some (Bc a f b d c g h i j k l m n o p q r s)):=bw
def Rv (f a g h i j k l m n o p q b c d e r):kR ρ H45 [.block 4,.seq (cN 45 4007571),.block 3,.seq (cN 45 500947)] [(1,2),(2,0),(5,1),(6,0),(7,0)] (cN 45 125236) (Bc f a g h i j k l m n o p q b c d e r)=bD (eq 4 a [CV.agg [bF b,bF c,CV.str d,CV.sl e]]) (LH ρ f (a++[CV.agg [bF b,bF c,CV.str d,CV.sl e]]) g h (IntKind.wrap .i64 (i+1)) j k l m n o p q r):=bw
def NR (a d b n c e f g h i j k l m):(Tv a d b n c e f g h i j k l).rK ρ m=opt (cT a b) λo=>opt (cj (LV.cv o)) λp=>cond (decide (c<(p.length:Int))) (opt (cT a b) λq=>opt (cj (LV.cv q)) λr=>opt (cT r c) λs=>ko (LV.cv s) λt C D E=>opt (cT a b) λu=>opt (cj (LV.cv u)) λv=>opt (cT v c) λw=>ko (LV.cv w) λF x G H=>opt (cT a b) λy=>opt (cj (LV.cv y)) λz=>opt (cT z c) λA=>ko (LV.cv A) λI J B K=>opt (LI ρ a d b n c 0 e f g h i j k l t x B [] m) (kR ρ H45 [.block 4,.seq (cN 45 4007571),.block 3,.seq (cN 45 500947)] [(1,2),(2,0),(5,1),(6,0),(7,0)] (cN 45 125236))) (some (Bb a d b e f g h i j k l m)):=bw
def Ru (c a d e f g h i j k b l):kS ρ H45 [.block 2,.seq (cN 45 15655)] [(1,2),(2,0),(5,1),(6,0),(7,0)] (Bb c a d e f g h i j k b l)=bD (eq 1 b [bF (IntKind.wrap .i64 ((a.length:Int) -1))]) (some (EA c a d e f g h i j k (b++[bF (IntKind.wrap .i64 ((a.length:Int) -1))]) l)):=bw
def afm (b a c d e f g h i j k l):(Yx b a c d e f g h i j k).sK ρ l=opt (LH ρ b a c (a.length:Int) 0 d e f g h i j k l) (kS ρ H45 [.block 2,.seq (cN 45 15655)] [(1,2),(2,0),(5,1),(6,0),(7,0)]):=bw
def V6 (a b c d e f g h i j k l):kR ρ H45 [.block 1,.seq (cN 45 979)] [(2,0),(5,1),(6,0)] (cN 45 244) (EA a b c d e f g h i j k l)=CJ ρ a b (IntKind.wrap .i64 (c+1)) d e f g h i j k l:=bw
def T6 (a d b e f g h i j k c l):(YN a d b e f g h i j k c).rK ρ l=cond (decide (b<(a.length:Int))) (opt (cT a b) λm=>opt (cj (LV.cv m)) λn=>cond (decide ((n.length:Int)=0)) (bD (eq 1 c [bF (-1)]) (CJ ρ a d (IntKind.wrap .i64 (b+1)) e f g h i j k (c++[bF (-1)]) l)) (opt (adH ρ a d b e f g h i j k c l) (kR ρ H45 [.block 1,.seq (cN 45 979)] [(2,0),(5,1),(6,0)] (cN 45 244)))) (some (EK d e f g h i j k c l)):=bw
def Wo (a g h i j b c d e f):kB ρ 45 H45 [.block 0,.seq (cN 45 31)] (EK a g h i j b c d e f)=bD (eq 4 a [CV.agg [bF b,bF c,CV.str d,CV.sl e]]) (some (.ret (LV.osl (a++[CV.agg [bF b,bF c,CV.str d,CV.sl e]])) f)):=bw
def akF (a b):bJ E ρ 51 [LV.str a] b=callK (ρ.call 85 [LV.str a,LV.bool false] b) (λf g=>opt (ci f) λh=>opt (bG h) λc=>opt (cj c.1) λi=>opt (bG c.2) λd=>opt (bN .i64 d.1) λj=>opt (bG d.2) λe=>opt (bN .i64 e.1) λk=>opt (bZ e.2) λl=>some (.ret (LV.ltup [LV.cv (CV.sl i),bv j,bv k]) g)) pP:=bw
def akG (a b c):bJ E ρ 52 [LV.cv (CV.sl a),LV.cv (CV.sl b)] c=cond (decide ((a.length:Int)=(b.length:Int))) (callK (ρ.call 86 [LV.cv (CV.sl a),LV.cv (CV.sl b)] c) (λe d=>opt (bO e) λf=>cond (!f) (callK (ρ.call 86 [LV.cv (CV.sl b),LV.cv (CV.sl a)] d) (λg h=>opt (bO g) λi=>some (.ret (LV.bool (!i)) h)) pP) (some (.ret (LV.bool false) d))) pP) (some (.ret (LV.bool false) c)):=bw
def Yy (a:Bool)(b c:Int)(d:List UInt8):SegD:=⟨H55,[],cN 55 215,mS [(1,LV.loc 0 0),(12,LV.bool a)] [Ob.cells [bv b,bv c,LV.str d]]⟩
def FN (a:Bool)(b c:Int)(d:List UInt8)(e:Mu):=(Yy a b c d).seg ρ e
def yr (a:Int)(b:Mu):St:= .ret (mS [(2,bv a)] []) b
def Yz (a b:Int)(c:List UInt8):SegD:=⟨H55,[],cN 55 861,mS [(1,LV.loc 0 0)] [Ob.cells [bv a,bv b,LV.str c]]⟩
def adI (a b:Int)(c:List UInt8)(d:Mu):=(Yz a b c).seg ρ d
def yt (a:Int)(b:Mu):St:= .ret (mS [(2,bv a)] []) b
def S3 (a b:Int)(c:List UInt8):SegD:=⟨H55,[],cN 55 1723,mS [(1,LV.loc 0 0)] [Ob.cells [bv a,bv b,LV.str c]]⟩
def Lp (a b:Int)(c:List UInt8)(d:Mu):=(S3 a b c).seg ρ d
def oQ (a:Int)(b:Mu):St:= .ret (mS [(2,bv a)] []) b
def abB (a:CV)(b:Mu):St:= .panic a (mS [] []) b
def EB (a:Mu):St:= .norm (mS [] []) a
def acQ (c f a b):(S3 c f a).sK ρ b=cond (decide (c=2)) (callK (ρ.call 92 [] b) (λg h=>opt (cj g) λi=>callK (ρ.call 82 [LV.cv (CV.sl i),LV.str a] h) (λj d=>opt (bO j) λk=>cond (!k) (callK (ρ.call 93 [] d) (λl m=>opt (cj l) λn=>callK (ρ.call 82 [LV.cv (CV.sl n),LV.str a] m) (λo e=>opt (bO o) λp=>cond (!p) (some (oQ 7 e)) (some (oQ 0 e))) pN) pN) (some (oQ 0 d))) pN) pN) (some (oQ 0 b)):=bw
def QU (a b):kS ρ H55 [] [] (oQ a b)=some (yt a b):=bw
def afn (a c b d):(Yz a c b).sK ρ d=cond (decide (a=0)) (callK (ρ.call 91 [LV.str b] d) (λf e=>opt (bO f) λg=>cond (!g) (some (yt 4 e)) (opt (Lp ρ a c b e) (kS ρ H55 [] []))) (pX abB)) (opt (Lp ρ a c b d) (kS ρ H55 [] [])):=bw
def V9 (a b):kS ρ H55 [] [] (yt a b)=some (yr a b):=bw
def TZ (c d b e a):(Yy c d b e).sK ρ a=cond (c) (cond (!decide (b=0)) (some (yr 3 a)) (opt (adI ρ d b e a) (kS ρ H55 [] []))) (some (EB a)):=bw
def V7 (a b):kB ρ 55 H55 [.block 0,.seq (cN 55 7)] (yr a b)=some (.ret (bv a) b):=bw
def V8 (a):kB ρ 55 H55 [.block 0,.seq (cN 55 7)] (EB a)=some (.ret (bv 15) a):=bw
def akH (a b c d):bJ E ρ 55 [LV.cv (CV.agg [bF a,bF b,CV.str c])] d=cond (decide (a=1)) (callK (ρ.call 90 [bv b,LV.str c] d) (λe f=>opt (bN .i64 e) λg=>some (.ret (bv g) f)) pP) (cond (decide (a=0)) (opt (FN ρ (decide (a=0)) a b c d) (kB ρ 55 H55 [.block 0,.seq (cN 55 7)])) (opt (FN ρ (decide (a=2)) a b c d) (kB ρ 55 H55 [.block 0,.seq (cN 55 7)]))):=bw
def akI (g h i):bJ E ρ 56 [LV.cv (CV.ref g h 0)] i=callK (ρ.call 95 [LV.cv (CV.ref g h 0)] i) (λk c=>opt (cW k) λj=>bD (dJ j) (opt (ρ.dcall 94 none [LV.cv (CV.ref (List.length c) 0 0),LV.cv (CV.ref (List.length c) 1 0)] (c++[[Ob.cells [LV.cv j],Ob.cells [bv 0]]])) λl=>opt (eE l) λa=>opt (opt (cw E.P 91 (bU a.2 0) 0) λm=>opt (opt (cw E.P 25 (bU a.2 1) 0) λn=>some [n]) λo=>some (m::o)) λd=>bD (nw (eW d)) (bD (fj (List.length a.1) (eW d)) (some (.ret (eW d) a.1))))) (λp e=>opt (ρ.dcall 94 (some p) [LV.cv (CV.ref (List.length e) 0 0),LV.cv (CV.ref (List.length e) 1 0)] (e++[[Ob.cells [LV.cv (CV.v (.pointer none))],Ob.cells [bv 0]]])) λq=>opt (eE q) λb=>opt (opt (cw E.P 91 (bU b.2 0) 0) λr=>opt (opt (cw E.P 25 (bU b.2 1) 0) λs=>some [s]) λt=>some (r::t)) λf=>bD (nw (eW f)) (bD (fj (List.length b.1) (eW f)) (some (.ret (eW f) b.1)))):=bw
def akJ (a b c d e):bJ E ρ 57 [LV.cv (CV.view [bF a,bF b,CV.str c,CV.sl d])] e=callK (ρ.call 96 [LV.cv (CV.view [bF a,bF b,CV.str c,CV.sl d])] e) (λg f=>opt (bN .i64 g) λh=>cond (decide (120<h)) (some (.ret (LV.ltup [LV.cv (CV.v (.slice none 0 0)),bv 8]) f)) (callK (ρ.call 73 [LV.cv (CV.view [bF a,bF b,CV.str c,CV.sl d]),LV.cv (CV.v (.slice none 0 0))] f) (λi j=>opt (cj i) λk=>some (.ret (LV.ltup [LV.cv (CV.sl k),bv 0]) j)) pP)) pP:=bw
def akK (c d e a b):bJ E ρ 58 [LV.cv (CV.view [bF c,bF d,CV.str e,CV.sl a])] b=cond (decide (7<(a.length:Int))) (some (.ret (LV.bool true) b)) (callK (ρ.call 97 [LV.cv (CV.sl a),LV.cv (CV.clo 98 [])] b) (λf g=>opt (bO f) λh=>some (.ret (LV.bool h) g)) pP):=bw
def YA (a:List CV):SegD:=⟨H59,[(2,0),(3,0)],cN 59 7,mS [(0,LV.cv (CV.sl a))] []⟩
def adJ (a:List CV)(b:Mu):=(YA a).seg ρ b
def YO (a:List CV)(b:Int):SegD:=⟨H59,[],cN 59 116,mS [(0,LV.cv (CV.sl a)),(4,bv b)] []⟩
def UU (a:List CV)(b:Int)(c:Mu):=(YO a b).loop ρ c
def EM (a b:Int)(c:Mu):St:= .ret (mS [(2,bv a),(3,bv b)] []) c
def abH (a:CV)(b:Mu):St:= .panic a (mS [] []) b
def EN (a:Mu):St:= .exit 0 (mS [] []) a
def yu (a b:Int)(c:Mu):St:= .ret (mS [(2,bv a),(3,bv b)] []) c
def T7 (b a c):(YO b a).rK ρ c=cond (decide (a<(b.length:Int))) (opt (cT b a) λf=>iy (LV.cv f) λg h i=>callK (ρ.call 99 [LV.cv (CV.agg [bF g,bF h,CV.str i])] c) (λj d=>opt (bN .i64 j) λe=>cond (!decide (e=0)) (some (EM a e d)) (UU ρ b (IntKind.wrap .i64 (a+1)) d)) (pX abH)) (some (EN c)):=bw
def Wp (a b c):kS ρ H59 [.block 0,.seq (cN 59 15)] [(2,0),(3,0)] (EM a b c)=some (yu a b c):=bw
def Wq (a):kS ρ H59 [.block 0,.seq (cN 59 15)] [(2,0),(3,0)] (EN a)=some (yu 0 0 a):=bw
def afo (a b):(YA a).sK ρ b=opt (UU ρ a 0 b) (kS ρ H59 [.block 0,.seq (cN 59 15)] [(2,0),(3,0)]):=bw
def Wa (a b c):kB ρ 59 H59 [] (yu a b c)=some (.ret (LV.ltup [bv a,bv b]) c):=bw
def akL (a b):bJ E ρ 59 [LV.cv (CV.sl a)] b=cond (decide (300<(a.length:Int))) (some (.ret (LV.ltup [bv 0,bv 8]) b)) (opt (adJ ρ a b) (kB ρ 59 H59 [])):=bw
def YB (a b:Nat)(c:List CV):SegD:=⟨H60,[(0,0),(1,0)],cN 60 1723,mS [(0,LV.cv (CV.ref a b 0)),(6,LV.cv (CV.sl c))] []⟩
def ahX (a b:Nat)(c:List CV)(d:Mu):=(YB a b c).seg ρ d
def LO (a:List CV)(b:Bool)(c:Mu):St:= .ret (mS [(4,LV.cv (CV.sl a)),(5,LV.bool b)] []) c
def LP (a:CV)(b:Mu):St:= .panic a (mS [] []) b
def S4 (a b:Nat)(c:Int):SegD:=⟨H60,[(4,2),(5,0)],cN 60 7,mS [(0,LV.cv (CV.ref a b 0)),(1,bv c)] []⟩
def Lq (a b:Nat)(c:Int)(d:Mu):=(S4 a b c).seg ρ d
def S5 (a b:Nat)(c:Int)(d:List CV)(e:Bool):SegD:=⟨H60,[(4,2),(5,0)],cN 60 63,mS [(0,LV.cv (CV.ref a b 0)),(1,bv c),(11,LV.cv (CV.sl d)),(12,LV.bool e)] []⟩
def lV (a b:Nat)(c:Int)(d:List CV)(e:Bool)(f:Mu):=(S5 a b c d e).seg ρ f
def Ig (a b:Nat)(c:Int)(d:List CV)(e:Bool):SegD:=⟨H60,[(11,2),(12,0)],cN 60 504,mS [(0,LV.cv (CV.ref a b 0)),(1,bv c),(11,LV.cv (CV.sl d)),(12,LV.bool e)] []⟩
def wG (a b:Nat)(c:Int)(d:List CV)(e:Bool)(f:Mu):=(Ig a b c d e).loop ρ f
def lC (a:List CV)(b:Bool)(c:Mu):St:= .ret (mS [(4,LV.cv (CV.sl a)),(5,LV.bool b)] []) c
def S6 (a b:Nat)(c:Int)(d:List CV)(e:Int):SegD:=⟨H60,[(0,0),(1,0),(11,2),(12,0)],cN 60 8075,mS [(0,LV.cv (CV.ref a b 0)),(1,bv c),(11,LV.cv (CV.sl d)),(14,bv e)] []⟩
def Lr (a b:Nat)(c:Int)(d:List CV)(e:Int)(f:Mu):=(S6 a b c d e).seg ρ f
def oS (a:List CV)(b:Bool)(c:Mu):St:= .ret (mS [(4,LV.cv (CV.sl a)),(5,LV.bool b)] []) c
def oT (a b:Nat)(c:Int)(d:List CV)(e:Bool)(f:Mu):St:= .norm (mS [(0,LV.cv (CV.ref a b 0)),(1,bv c),(11,LV.cv (CV.sl d)),(12,LV.bool e)] []) f
def Jp (a:CV)(b:Mu):St:= .panic a (mS [] []) b
def Jt (a:CV)(b:Mu):St:= .panic a (mS [] []) b
def kD (a:List CV)(b:Bool)(c:Mu):St:= .exit 1 (mS [(11,LV.cv (CV.sl a)),(12,LV.bool b)] []) c
def kC (a:List CV)(b:Bool)(c:Mu):St:= .ret (mS [(4,LV.cv (CV.sl a)),(5,LV.bool b)] []) c
def vp (a:List CV)(b:Bool)(c:Mu):St:= .ret (mS [(4,LV.cv (CV.sl a)),(5,LV.bool b)] []) c
def gZ (a:CV)(b:Mu):St:= .panic a (mS [] []) b
def afp (a b c d):(YB a b c).sK ρ d=callK (ρ.call 60 [LV.cv (CV.ref a b 0),bv 9] d) (λg h=>opt (ci g) λi=>opt (bG i) λe=>opt (cj e.1) λj=>opt (bG e.2) λf=>opt (bO f.1) λk=>opt (bZ f.2) λo=>callK (ρ.call 45 [LV.cv (CV.agg [bF 9,bF 0,CV.str [],CV.v (.slice none 0 0)]),LV.osl [CV.sl c,CV.sl j]] h) (λl m=>opt (cj l) λn=>some (LO n k m)) (pX LP)) (pX LP):=bw
def G7 (a b c):kB ρ 60 H60 [.block 0,.seq (cN 60 7)] (LO a b c)=some (.ret (LV.ltup [LV.cv (CV.sl a),LV.bool b]) c):=bw
def acS (a b c e f d):(S6 a b c e f).sK ρ d=opt (cw E.P 3 (ce d a b) 1) λl=>opt (bN .i64 l) λm=>opt (dv E.P 3 (ce d a b) 1 (bv (IntKind.wrap .i64 (m+1)))) λn=>callK (ρ.call 60 [LV.cv (CV.ref a b 0),bv (IntKind.wrap .i64 (c+1))] (cx d a b n)) (λo p=>opt (ci o) λq=>opt (bG q) λg=>opt (cj g.1) λr=>opt (bG g.2) λh=>opt (bO h.1) λi=>opt (bZ h.2) λt=>callK (ρ.call 45 [LV.cv (CV.agg [bF f,bF 0,CV.str [],CV.v (.slice none 0 0)]),LV.osl [CV.sl e,CV.sl r]] p) (λs j=>opt (cj s) λk=>cond (decide (c=5)) (some (oS k i j)) (some (oT a b c k i j))) (pX Jp)) (pX Jp):=bw
def DX (a b c):kR ρ H60 [.block 2] [(11,2),(12,0)] (cN 60 504) (oS a b c)=some (lC a b c):=bw
def DY (a b c d e f):kR ρ H60 [.block 2] [(11,2),(12,0)] (cN 60 504) (oT a b c d e f)=wG ρ a b c d e f:=bw
def Fs (b c f d e a):(Ig b c f d e).rK ρ a=cond (e) (opt (cw E.P 3 (ce a b c) 1) λl=>opt (bN .i64 l) λm=>opt (cw E.P 35 (ce a b c) 0) λn=>opt (cj n) λo=>cond (decide (m<(o.length:Int))) (opt (cw E.P 35 (ce a b c) 0) λp=>opt (cj p) λq=>opt (cw E.P 3 (ce a b c) 1) λr=>opt (bN .i64 r) λs=>opt (cT q s) λt=>iy (LV.cv t) λu v w=>callK (ρ.call 103 [LV.cv (CV.agg [bF u,bF v,CV.str w])] a) (λx g=>opt (ci x) λy=>opt (bG y) λh=>opt (bN .i64 h.1) λi=>opt (bG h.2) λj=>opt (bO j.1) λz=>opt (bZ j.2) λC=>cond (!z) (some (lC d true g)) (callK (ρ.call 32 [bv i] g) (λA k=>opt (bN .i64 A) λB=>cond (!decide (B=f)) (some (lC d true k)) (opt (Lr ρ b c f d i k) (kR ρ H60 [.block 2] [(11,2),(12,0)] (cN 60 504)))) (pX Jt))) (pX Jt)) (some (kD d e a))) (some (kD d e a)):=bw
def Rw (a b c):kS ρ H60 [.block 1,.seq (cN 60 127)] [(4,2),(5,0)] (lC a b c)=some (kC a b c):=bw
def D3 (a b c):kS ρ H60 [.block 1,.seq (cN 60 127)] [(4,2),(5,0)] (kD a b c)=some (kC a b c):=bw
def Nz (a b c d e f):(S5 a b c d e).sK ρ f=opt (wG ρ a b c d e f) (kS ρ H60 [.block 1,.seq (cN 60 127)] [(4,2),(5,0)]):=bw
def QW (a b c):kS ρ H60 [] [(4,2),(5,0)] (kC a b c)=some (vp a b c):=bw
def acR (a b c d):(S4 a b c).sK ρ d=cond (decide (c=7)) (callK (ρ.call 102 [LV.cv (CV.ref a b 0),LV.str [43]] d) (λq g=>opt (bO q) λr=>cond (r) (callK (ρ.call 102 [LV.cv (CV.ref a b 0),LV.str [45]] g) (λs t=>opt (bO s) λu=>callK (ρ.call 42 [LV.bool u] t) (λw e=>opt (bN .i64 w) λx=>opt (cw E.P 3 (ce e a b) 1) λy=>opt (bN .i64 y) λz=>opt (dv E.P 3 (ce e a b) 1 (bv (IntKind.wrap .i64 (z+1)))) λA=>callK (ρ.call 60 [LV.cv (CV.ref a b 0),bv 8] (cx e a b A)) (λB C=>opt (ci B) λD=>opt (bG D) λh=>opt (cj h.1) λF=>opt (bG h.2) λi=>opt (bO i.1) λG=>opt (bZ i.2) λan=>callK (ρ.call 45 [LV.cv (CV.agg [bF (IntKind.wrap .i64 (6+x)),bF 0,CV.str [],CV.v (.slice none 0 0)]),LV.osl [CV.sl F]] C) (λH I=>opt (cj H) λJ=>opt (lV ρ a b c J G I) (kS ρ H60 [] [(4,2),(5,0)])) (pX gZ)) (pX gZ)) (pX gZ)) (pX gZ)) (callK (ρ.call 102 [LV.cv (CV.ref a b 0),LV.str [45]] g) (λK j=>opt (bO K) λL=>cond (L) (callK (ρ.call 102 [LV.cv (CV.ref a b 0),LV.str [45]] j) (λM N=>opt (bO M) λO=>callK (ρ.call 42 [LV.bool O] N) (λQ f=>opt (bN .i64 Q) λR=>opt (cw E.P 3 (ce f a b) 1) λS=>opt (bN .i64 S) λT=>opt (dv E.P 3 (ce f a b) 1 (bv (IntKind.wrap .i64 (T+1)))) λU=>callK (ρ.call 60 [LV.cv (CV.ref a b 0),bv 8] (cx f a b U)) (λV W=>opt (ci V) λX=>opt (bG X) λk=>opt (cj k.1) λY=>opt (bG k.2) λl=>opt (bO l.1) λZ=>opt (bZ l.2) λao=>callK (ρ.call 45 [LV.cv (CV.agg [bF (IntKind.wrap .i64 (6+R)),bF 0,CV.str [],CV.v (.slice none 0 0)]),LV.osl [CV.sl Y]] W) (λaa ab=>opt (cj aa) λac=>opt (lV ρ a b c ac Z ab) (kS ρ H60 [] [(4,2),(5,0)])) (pX gZ)) (pX gZ)) (pX gZ)) (pX gZ)) (callK (ρ.call 60 [LV.cv (CV.ref a b 0),bv (IntKind.wrap .i64 (c+1))] j) (λad ae=>opt (ci ad) λaf=>opt (bG af) λm=>opt (cj m.1) λag=>opt (bG m.2) λn=>opt (bO n.1) λah=>opt (bZ n.2) λap=>opt (lV ρ a b c ag ah ae) (kS ρ H60 [] [(4,2),(5,0)])) (pX gZ))) (pX gZ))) (pX gZ)) (callK (ρ.call 60 [LV.cv (CV.ref a b 0),bv (IntKind.wrap .i64 (c+1))] d) (λai aj=>opt (ci ai) λak=>opt (bG ak) λo=>opt (cj o.1) λal=>opt (bG o.2) λp=>opt (bO p.1) λam=>opt (bZ p.2) λaq=>opt (lV ρ a b c al am aj) (kS ρ H60 [] [(4,2),(5,0)])) (pX gZ)):=bw
def QV (a b c):kB ρ 60 H60 [] (vp a b c)=some (.ret (LV.ltup [LV.cv (CV.sl a),LV.bool b]) c):=bw
def akM (a b c d):bJ E ρ 60 [LV.cv (CV.ref a b 0),bv c] d=cond (decide (c=10)) (callK (ρ.call 100 [LV.cv (CV.ref a b 0)] d) (λp q=>opt (ci p) λr=>opt (bG r) λg=>opt (cj g.1) λs=>opt (bG g.2) λh=>opt (bO h.1) λt=>opt (bZ h.2) λK=>some (.ret (LV.ltup [LV.cv (CV.sl s),LV.bool t]) q)) pP) (cond (decide (c=9)) (callK (ρ.call 100 [LV.cv (CV.ref a b 0)] d) (λu i=>opt (ci u) λw=>opt (bG w) λj=>opt (cj j.1) λe=>opt (bG j.2) λk=>opt (bO k.1) λf=>opt (bZ k.2) λL=>cond (!f) (some (.ret (LV.ltup [LV.cv (CV.sl e),LV.bool f]) i)) (callK (ρ.call 101 [LV.cv (CV.ref a b 0),LV.str [42,42]] i) (λx l=>opt (bO x) λy=>cond (!y) (some (.ret (LV.ltup [LV.cv (CV.sl e),LV.bool f]) l)) (opt (ahX ρ a b e l) (kB ρ 60 H60 [.block 0,.seq (cN 60 7)]))) pP)) pP) (cond (decide (c=4)) (callK (ρ.call 101 [LV.cv (CV.ref a b 0),LV.str [46,78,79,84,46]] d) (λz m=>opt (bO z) λA=>cond (A) (callK (ρ.call 60 [LV.cv (CV.ref a b 0),bv 4] m) (λB C=>opt (ci B) λD=>opt (bG D) λn=>opt (cj n.1) λF=>opt (bG n.2) λo=>opt (bO o.1) λG=>opt (bZ o.2) λM=>callK (ρ.call 45 [LV.cv (CV.agg [bF 8,bF 0,CV.str [],CV.v (.slice none 0 0)]),LV.osl [CV.sl F]] C) (λH I=>opt (cj H) λJ=>some (.ret (LV.ltup [LV.cv (CV.sl J),LV.bool G]) I)) pP) pP) (opt (Lq ρ a b c m) (kB ρ 60 H60 []))) pP) (opt (Lq ρ a b c d) (kB ρ 60 H60 [])))):=bw
def YP (a:List CV)(b:Int):SegD:=⟨H61,[],cN 61 52,mS [(0,LV.cv (CV.sl a)),(3,bv b)] []⟩
def KK (a:List CV)(b:Int)(c:Mu):=(YP a b).loop ρ c
def EO (a:Bool)(b:Mu):St:= .ret (mS [(2,LV.bool a)] []) b
def EP (a:Mu):St:= .exit 0 (mS [] []) a
def T8 (a b c):(YP a b).rK ρ c=cond (decide (b<(a.length:Int))) (opt (cT a b) λd=>ko (LV.cv d) λe h i j=>cond (decide (e=2)) (opt (cT a b) λf=>ko (LV.cv f) λk l m g=>cond (decide (7<(g.length:Int))) (some (EO true c)) (KK ρ a (IntKind.wrap .i64 (b+1)) c)) (KK ρ a (IntKind.wrap .i64 (b+1)) c)) (some (EP c)):=bw
def Wr (a b):kB ρ 61 H61 [.block 0,.seq (cN 61 7)] (EO a b)=some (.ret (LV.bool a) b):=bw
def Ws (a):kB ρ 61 H61 [.block 0,.seq (cN 61 7)] (EP a)=some (.ret (LV.bool false) a):=bw
def akN (a b):bJ E ρ 61 [LV.cv (CV.sl a)] b=opt (KK ρ a 0 b) (kB ρ 61 H61 [.block 0,.seq (cN 61 7)]):=bw
def akO (a b):bJ E ρ 62 [LV.str a] b=cond (decide (1320<(a.length:Int))) (some (.ret (bv 8) b)) (callK (ρ.call 104 [LV.str a,bv 1320] b) (λd c=>opt (bO d) λe=>cond (!e) (some (.ret (bv 3) c)) (some (.ret (bv 0) c))) pP):=bw
def YQ (a:List UInt8)(b c d e:Int)(f:List UInt8)(g h:Int):SegD:=⟨H63,[(0,0),(1,0),(4,0),(6,0)],cN 63 1832,mS [(0,LV.str a),(1,bv b),(4,LV.loc 0 0),(6,bv c)] [Ob.cells [bv d,bv e,LV.str f,bv g,bv h]]⟩
def CK (a:List UInt8)(b c d e:Int)(f:List UInt8)(g h:Int)(i:Mu):=(YQ a b c d e f g h).loop ρ i
def uq (a:List UInt8)(b c d e:Int)(f:List UInt8)(g h:Int)(i:Mu):St:= .exit 1 (mS [(0,LV.str a),(1,bv b),(4,LV.loc 0 0),(6,bv c)] [Ob.cells [bv d,bv e,LV.str f,bv g,bv h]]) i
def LQ (a:CV)(b:Mu):St:= .panic a (mS [] []) b
def YC (a:List UInt8)(b c d e:Int)(f:List UInt8)(g h:Int):SegD:=⟨H63,[(0,0),(1,0),(4,0)],cN 63 919,mS [(0,LV.str a),(1,bv b),(4,LV.loc 0 0),(6,bv c)] [Ob.cells [bv d,bv e,LV.str f,bv g,bv h]]⟩
def adK (a:List UInt8)(b c d e:Int)(f:List UInt8)(g h:Int)(i:Mu):=(YC a b c d e f g h).seg ρ i
def EC (a b:Int)(c:List UInt8)(d e:Int)(f:Mu):St:= .ret (mS [(4,LV.loc 0 0)] [Ob.cells [bv a,bv b,LV.str c,bv d,bv e]]) f
def abC (a:CV)(b:Mu):St:= .panic a (mS [] []) b
def S7 (a:List UInt8)(b c:Int)(d:Bool)(e f:Int)(g:List UInt8)(h i:Int):SegD:=⟨H63,[(0,0),(1,0),(4,0)],cN 63 231,mS [(0,LV.str a),(1,bv b),(4,LV.loc 0 0),(5,LV.int .u8 c),(60,LV.bool d)] [Ob.cells [bv e,bv f,LV.str g,bv h,bv i]]⟩
def wC (a:List UInt8)(b c:Int)(d:Bool)(e f:Int)(g:List UInt8)(h i:Int)(j:Mu):=(S7 a b c d e f g h i).seg ρ j
def g0 (a b:Int)(c:List UInt8)(d e:Int)(f:Mu):St:= .ret (mS [(4,LV.loc 0 0)] [Ob.cells [bv a,bv b,LV.str c,bv d,bv e]]) f
def vq (a:CV)(b:Mu):St:= .panic a (mS [] []) b
def Tx (a:List UInt8)(b:Int)(c:List CV)(d e f g:Int)(h:List UInt8)(i j:Int):SegD:=⟨H63,[(0,0),(1,0),(4,0)],cN 63 29668,mS [(0,LV.str a),(1,bv b),(4,LV.loc 0 0),(85,LV.cv (CV.sl c)),(86,bv d),(87,bv e)] [Ob.cells [bv f,bv g,LV.str h,bv i,bv j]]⟩
def LJ (a:List UInt8)(b:Int)(c:List CV)(d e f g:Int)(h:List UInt8)(i j:Int)(k:Mu):=(Tx a b c d e f g h i j).loop ρ k
def Bd (a b:Int)(c:List UInt8)(d e:Int)(f:Mu):St:= .ret (mS [(4,LV.loc 0 0)] [Ob.cells [bv a,bv b,LV.str c,bv d,bv e]]) f
def XZ (a:CV)(b:Mu):St:= .panic a (mS [] []) b
def Be (a:List UInt8)(b c d:Int)(e:List UInt8)(f g:Int)(h:Mu):St:= .exit 3 (mS [(0,LV.str a),(1,bv b),(4,LV.loc 0 0)] [Ob.cells [bv c,bv d,LV.str e,bv f,bv g]]) h
def Ty (a:List UInt8)(b:Int)(c:List CV)(d e f g:Int)(h:List UInt8)(i j:Int):SegD:=⟨H63,[(4,0)],cN 63 59348,mS [(0,LV.str a),(1,bv b),(4,LV.loc 0 0),(103,LV.cv (CV.sl c)),(104,bv d),(105,bv e)] [Ob.cells [bv f,bv g,LV.str h,bv i,bv j]]⟩
def LK (a:List UInt8)(b:Int)(c:List CV)(d e f g:Int)(h:List UInt8)(i j:Int)(k:Mu):=(Ty a b c d e f g h i j).loop ρ k
def Bf (a b:Int)(c:List UInt8)(d e:Int)(f:Mu):St:= .ret (mS [(4,LV.loc 0 0)] [Ob.cells [bv a,bv b,LV.str c,bv d,bv e]]) f
def X1 (a:CV)(b:Mu):St:= .panic a (mS [] []) b
def Bg (a b:Int)(c:List UInt8)(d e:Int)(f:Mu):St:= .exit 5 (mS [(4,LV.loc 0 0)] [Ob.cells [bv a,bv b,LV.str c,bv d,bv e]]) f
def AP (a:List UInt8)(b c d:Int)(e:List UInt8)(f g:Int)(h:Mu):St:= .norm (mS [(0,LV.str a),(1,bv b),(4,LV.loc 0 0)] [Ob.cells [bv c,bv d,LV.str e,bv f,bv g]]) h
def S8 (a:List UInt8)(b c d:Int)(e:List UInt8)(f g:Int):SegD:=⟨H63,[(4,0)],cN 63 15,mS [(0,LV.str a),(1,bv b),(4,LV.loc 0 0)] [Ob.cells [bv c,bv d,LV.str e,bv f,bv g]]⟩
def XA (a:List UInt8)(b c d:Int)(e:List UInt8)(f g:Int)(h:Mu):=(S8 a b c d e f g).seg ρ h
def Tz (a:List UInt8)(b:Int)(c:List CV)(d e f g:Int)(h:List UInt8)(i j k l:Int)(m:List UInt8)(n o:Int):SegD:=⟨H63,[(0,0),(1,0),(4,0),(11,0)],cN 63 500,mS [(0,LV.str a),(1,bv b),(4,LV.loc 0 0),(11,LV.loc 1 0),(133,LV.cv (CV.sl c)),(134,bv d),(135,bv e)] [Ob.cells [bv f,bv g,LV.str h,bv i,bv j],Ob.cells [bv k,bv l,LV.str m,bv n,bv o]]⟩
def z8 (a:List UInt8)(b:Int)(c:List CV)(d e f g:Int)(h:List UInt8)(i j k l:Int)(m:List UInt8)(n o:Int)(p:Mu):=(Tz a b c d e f g h i j k l m n o).loop ρ p
def X2 (a:CV)(b:Mu):St:= .panic a (mS [] []) b
def Bh (a:List UInt8)(b c d:Int)(e:List UInt8)(f g h i:Int)(j:List UInt8)(k l:Int)(m:Mu):St:= .exit 7 (mS [(0,LV.str a),(1,bv b),(4,LV.loc 0 0),(11,LV.loc 1 0)] [Ob.cells [bv c,bv d,LV.str e,bv f,bv g],Ob.cells [bv h,bv i,LV.str j,bv k,bv l]]) m
def Jq (a:CV)(b:Mu):St:= .panic a (mS [] []) b
def TA (a:List UInt8)(b:Int)(c:List CV)(d e f g:Int)(h:List UInt8)(i j k l:Int)(m:List UInt8)(n o:Int):SegD:=⟨H63,[(4,0),(11,0)],cN 63 1012,mS [(0,LV.str a),(1,bv b),(4,LV.loc 0 0),(11,LV.loc 1 0),(164,LV.cv (CV.sl c)),(165,bv d),(166,bv e)] [Ob.cells [bv f,bv g,LV.str h,bv i,bv j],Ob.cells [bv k,bv l,LV.str m,bv n,bv o]]⟩
def wH (a:List UInt8)(b:Int)(c:List CV)(d e f g:Int)(h:List UInt8)(i j k l:Int)(m:List UInt8)(n o:Int)(p:Mu):=(TA a b c d e f g h i j k l m n o).loop ρ p
def X3 (a:CV)(b:Mu):St:= .panic a (mS [] []) b
def rQ (a b:Int)(c:List UInt8)(d e f g:Int)(h:List UInt8)(i j:Int)(k:Mu):St:= .exit 9 (mS [(4,LV.loc 0 0),(11,LV.loc 1 0)] [Ob.cells [bv a,bv b,LV.str c,bv d,bv e],Ob.cells [bv f,bv g,LV.str h,bv i,bv j]]) k
def vt (a b:Int)(c:List UInt8)(d e:Int)(f:Mu):St:= .ret (mS [(4,LV.loc 0 0)] [Ob.cells [bv a,bv b,LV.str c,bv d,bv e]]) f
def T9 (a c b d e f g h i):(YQ a c b d e f g h).rK ρ i=cond (decide (b<(a.length:Int))) (opt (dm a b) λl=>callK (ρ.call 105 [LV.int .u8 (l.toNat:Int)] i) (λm k=>opt (bO m) λn=>cond (n) (CK ρ a c (IntKind.wrap .i64 (b+1)) d e f g h k) (opt (dm a b) λo=>callK (ρ.call 106 [LV.int .u8 (o.toNat:Int)] k) (λp j=>opt (bO p) λq=>cond (q) (CK ρ a c (IntKind.wrap .i64 (b+1)) d e f g h j) (opt (dm a b) λr=>cond (decide ((r.toNat:Int)=95)) (CK ρ a c (IntKind.wrap .i64 (b+1)) d e f g h j) (some (uq a c b d e f g h j)))) (pX LQ))) (pX LQ)) (some (uq a c b d e f g h i)):=bw
def afq (b c a e f g h i d):(YC b c a e f g h i).sK ρ d=opt (gc b c a) λj=>callK (ρ.call 107 [LV.str j] d) (λk l=>opt (cg k) λm=>some (EC 0 0 m a 0 l)) (pX abC):=bw
def Wb (a b c d e f):kB ρ 63 H63 [.block 0,.seq (cN 63 15)] (EC a b c d e f)=some (.ret (LV.cv (CV.agg [bF a,bF b,CV.str c,bF d,bF e])) f):=bw
def Wt (d a b e f g h i c):kB ρ 63 H63 [.block 1,.seq (cN 63 459),.block 0,.seq (cN 63 15)] (uq d a b e f g h i c)=cond (decide (31<IntKind.wrap .i64 (b-a))) (some (.ret (LV.cv (CV.agg [bF 0,bF 0,CV.str [],bF 0,bF 4])) c)) (opt (adK ρ d a b e f g h i c) (kB ρ 63 H63 [.block 0,.seq (cN 63 15)])):=bw
def NT (b a d e c f g h i j k):(Tx b a d e c f g h i j).rK ρ k=cond (decide (c<e)) (opt (cT d c) λn=>opt (cg (LV.cv n)) λl=>callK (ρ.call 110 [LV.str b,bv a,LV.str l] k) (λo m=>opt (bO o) λp=>cond (p) (some (Bd 2 0 l (IntKind.wrap .i64 (a+(l.length:Int))) 0 m)) (LJ ρ b a d e (IntKind.wrap .i64 (c+1)) f g h i j m)) (pX XZ)) (some (Be b a f g h i j k)):=bw
def Rx (a b c d e f):kS ρ H63 [.block 3,.seq (cN 63 3709)] [(0,0),(1,0),(4,0)] (Bd a b c d e f)=some (g0 a b c d e f):=bw
def NU (c a d e b f g h i j k):(Ty c a d e b f g h i j).rK ρ k=cond (decide (b<e)) (opt (cT d b) λn=>opt (cg (LV.cv n)) λl=>callK (ρ.call 110 [LV.str c,bv a,LV.str l] k) (λo m=>opt (bO o) λp=>cond (p) (some (Bf 1 5 l (IntKind.wrap .i64 (a+(l.length:Int))) 0 m)) (LK ρ c a d e (IntKind.wrap .i64 (b+1)) f g h i j m)) (pX X1)) (some (Bg f g h i j k)):=bw
def Rz (a b c d e f):kS ρ H63 [.block 5,.seq (cN 63 7419)] [(0,0),(1,0),(4,0)] (Bf a b c d e f)=some (g0 a b c d e f):=bw
def RA (b c d e f a):kS ρ H63 [.block 5,.seq (cN 63 7419)] [(0,0),(1,0),(4,0)] (Bg b c d e f a)=some (g0 0 0 ([]:List UInt8) 0 7 a):=bw
def Ry (a b c d e f g h):kS ρ H63 [.block 3,.seq (cN 63 3709)] [(0,0),(1,0),(4,0)] (Be a b c d e f g h)=opt (LK ρ a b [CV.str [46,84,82,85,69,46],CV.str [46,70,65,76,83,69,46]] 2 0 c d e f g h) (kS ρ H63 [.block 5,.seq (cN 63 7419)] [(0,0),(1,0),(4,0)]):=bw
def acT (a b d j e f g h i c):(S7 a b d j e f g h i).sK ρ c=cond (j) (callK (ρ.call 108 [LV.str a,bv b] c) (λl m=>Hj l λn o p q r=>some (g0 n o p q r m)) (pX vq)) (cond (decide (d=46)) (callK (ρ.call 109 [] c) (λs t=>opt (cj s) λk=>opt (LJ ρ a b k (k.length:Int) 0 e f g h i t) (kS ρ H63 [.block 3,.seq (cN 63 3709)] [(0,0),(1,0),(4,0)])) (pX vq)) (cond (decide (d=39)) (callK (ρ.call 111 [LV.str a,bv b] c) (λu v=>Hj u λw x y z A=>some (g0 w x y z A v)) (pX vq)) (cond (decide (d=34)) (callK (ρ.call 111 [LV.str a,bv b] c) (λB C=>Hj B λD E F G H=>some (g0 D E F G H C)) (pX vq)) (some (AP a b e f g h i c))))):=bw
def DZ (a b c d e f):kB ρ 63 H63 [.block 0,.seq (cN 63 15)] (g0 a b c d e f)=some (.ret (LV.cv (CV.agg [bF a,bF b,CV.str c,bF d,bF e])) f):=bw
def zi (b a d e c f g h i j l m n k o p):(Tz b a d e c f g h i j l m n k o).rK ρ p=cond (decide (c<e)) (opt (cT d c) λs=>aei (LV.cv s) λq t=>callK (ρ.call 110 [LV.str b,bv a,LV.str q] p) (λu r=>opt (bO u) λv=>cond (v) (cond (decide (k<IntKind.wrap .i64 (a+(q.length:Int)))) (z8 ρ b a d e (IntKind.wrap .i64 (c+1)) f g h i j 2 0 t (IntKind.wrap .i64 (a+(q.length:Int))) 0 r) (z8 ρ b a d e (IntKind.wrap .i64 (c+1)) f g h i j l m n k o r)) (z8 ρ b a d e (IntKind.wrap .i64 (c+1)) f g h i j l m n k o r)) (pX X2)) (some (Bh b a f g h i j l m n k o p)):=bw
def zj (c a d e b f g h i j l m n k o q):(TA c a d e b f g h i j l m n k o).rK ρ q=cond (decide (b<e)) (opt (cT d b) λs=>opt (cg (LV.cv s)) λp=>callK (ρ.call 110 [LV.str c,bv a,LV.str p] q) (λt r=>opt (bO t) λu=>cond (u) (cond (decide (k<IntKind.wrap .i64 (a+(p.length:Int)))) (wH ρ c a d e (IntKind.wrap .i64 (b+1)) f g h i j 2 0 p (IntKind.wrap .i64 (a+(p.length:Int))) 0 r) (wH ρ c a d e (IntKind.wrap .i64 (b+1)) f g h i j l m n k o r)) (wH ρ c a d e (IntKind.wrap .i64 (b+1)) f g h i j l m n k o r)) (pX X3)) (some (rQ f g h i j l m n k o q)):=bw
def D5 (g h i j k a b c d e f):kS ρ H63 [.block 9,.seq (cN 63 127)] [(4,0)] (rQ g h i j k a b c d e f)=some (vt a b c d e f):=bw
def D4 (a b c d e f g h i j k l m):kS ρ H63 [.block 7,.seq (cN 63 63)] [(4,0)] (Bh a b c d e f g h i j k l m)=callK (ρ.call 113 [] m) (λo p=>opt (cj o) λn=>opt (wH ρ a b n (n.length:Int) 0 c d e f g h i j k l p) (kS ρ H63 [.block 9,.seq (cN 63 127)] [(4,0)])) (pX Jq):=bw
def acU (a b c d e f g h):(S8 a b c d e f g).sK ρ h=callK (ρ.call 112 [] h) (λj k=>opt (cj j) λi=>opt (z8 ρ a b i (i.length:Int) 0 c d e f g 0 0 ([]:List UInt8) 0 7 k) (kS ρ H63 [.block 7,.seq (cN 63 63)] [(4,0)])) (pX Jq):=bw
def D0 (a b c d e f):kB ρ 63 H63 [] (vt a b c d e f)=some (.ret (LV.cv (CV.agg [bF a,bF b,CV.str c,bF d,bF e])) f):=bw
def QX (a b c d e f g h):kB ρ 63 H63 [.block 0,.seq (cN 63 15)] (AP a b c d e f g h)=opt (XA ρ a b c d e f g h) (kB ρ 63 H63 []):=bw
def akP (b a e):bJ E ρ 63 [LV.str b,bv a] e=opt (dm b a) λc=>callK (ρ.call 105 [LV.int .u8 (c.toNat:Int)] e) (λh f=>opt (bO h) λi=>cond (i) (opt (CK ρ b a a 0 0 ([]:List UInt8) 0 0 f) (kB ρ 63 H63 [.block 1,.seq (cN 63 459),.block 0,.seq (cN 63 15)])) (callK (ρ.call 106 [LV.int .u8 (c.toNat:Int)] f) (λj d=>opt (bO j) λg=>cond (g) (opt (wC ρ b a (c.toNat:Int) g 0 0 ([]:List UInt8) 0 0 d) (kB ρ 63 H63 [.block 0,.seq (cN 63 15)])) (cond (decide ((c.toNat:Int)=46)) (cond (decide (IntKind.wrap .i64 (a+1)<(b.length:Int))) (opt (dm b (IntKind.wrap .i64 (a+1))) λk=>callK (ρ.call 106 [LV.int .u8 (k.toNat:Int)] d) (λl m=>opt (bO l) λn=>opt (wC ρ b a (c.toNat:Int) n 0 0 ([]:List UInt8) 0 0 m) (kB ρ 63 H63 [.block 0,.seq (cN 63 15)])) pP) (opt (wC ρ b a (c.toNat:Int) false 0 0 ([]:List UInt8) 0 0 d) (kB ρ 63 H63 [.block 0,.seq (cN 63 15)]))) (opt (wC ρ b a (c.toNat:Int) false 0 0 ([]:List UInt8) 0 0 d) (kB ρ 63 H63 [.block 0,.seq (cN 63 15)])))) pP)) pP:=bw
def akQ (a):bJ E ρ 69 [] a=callK (ρ.call 119 [bv 9,bv 10,bv 9,LV.str [42,42]] a) (λb c=>js b λd e f g h=>callK (ρ.call 119 [bv 8,bv 8,bv 9,LV.str [42]] c) (λi j=>js i λk l m n o=>callK (ρ.call 119 [bv 8,bv 8,bv 9,LV.str [47]] j) (λp q=>js p λr s t u w=>callK (ρ.call 119 [bv 7,bv 7,bv 8,LV.str [43]] q) (λx y=>js x λz A B C D=>callK (ρ.call 119 [bv 7,bv 7,bv 8,LV.str [45]] y) (λF G=>js F λH I J K L=>callK (ρ.call 119 [bv 6,bv 6,bv 7,LV.str [47,47]] G) (λM N=>js M λO P Q R S=>callK (ρ.call 118 [LV.str [46,76,84,46]] N) (λT U=>js T λV W X Y Z=>callK (ρ.call 118 [LV.str [46,76,69,46]] U) (λaa ab=>js aa λac ad ae af ag=>callK (ρ.call 118 [LV.str [46,69,81,46]] ab) (λah ai=>js ah λaj ak al am an=>callK (ρ.call 118 [LV.str [46,78,69,46]] ai) (λao ap=>js ao λaq ar au av aw=>callK (ρ.call 118 [LV.str [46,71,69,46]] ap) (λax ay=>js ax λaz aA aB aC aD=>callK (ρ.call 118 [LV.str [46,71,84,46]] ay) (λaE aF=>js aE λaG aH aI aJ aK=>callK (ρ.call 119 [bv 3,bv 3,bv 4,LV.str [46,65,78,68,46]] aF) (λaL aM=>js aL λaN aO aP aQ aR=>callK (ρ.call 119 [bv 2,bv 2,bv 3,LV.str [46,79,82,46]] aM) (λaS aT=>js aS λaU aV aW aX aY=>callK (ρ.call 119 [bv 1,bv 1,bv 2,LV.str [46,69,81,86,46]] aT) (λaZ a0=>js aZ λa1 a2 a3 a4 a5=>callK (ρ.call 119 [bv 1,bv 1,bv 2,LV.str [46,78,69,81,86,46]] a0) (λa6 a7=>js a6 λa8 a9 ba bb bc=>some (.ret (LV.cv (CV.agg [bF 10,bF 0,bF 0,CV.v (.slice none 0 0),CV.str [],bF 10,bF 0,bF 0,CV.v (.slice none 0 0),CV.str [],bF 10,bF 1,bF 7,CV.v (.slice none 0 0),CV.str [],bF 0,bF 3,bF 3,CV.v (.slice none 0 0),CV.str [],bF 10,bF 2,bF 2,CV.v (.slice none 0 0),CV.str [],bF 10,bF 1,bF 1,CV.v (.slice none 0 0),CV.str [],bF 7,bF 1,bF 1,CV.sl [bF 8],CV.str [43],bF 7,bF 1,bF 1,CV.sl [bF 8],CV.str [45],bF 4,bF 1,bF 1,CV.sl [bF 4],CV.str [46,78,79,84,46],bF d,bF e,bF f,CV.sl g,CV.str h,bF k,bF l,bF m,CV.sl n,CV.str o,bF r,bF s,bF t,CV.sl u,CV.str w,bF z,bF A,bF B,CV.sl C,CV.str D,bF H,bF I,bF J,CV.sl K,CV.str L,bF O,bF P,bF Q,CV.sl R,CV.str S,bF V,bF W,bF X,CV.sl Y,CV.str Z,bF ac,bF ad,bF ae,CV.sl af,CV.str ag,bF aj,bF ak,bF al,CV.sl am,CV.str an,bF aq,bF ar,bF au,CV.sl av,CV.str aw,bF az,bF aA,bF aB,CV.sl aC,CV.str aD,bF aG,bF aH,bF aI,CV.sl aJ,CV.str aK,bF aN,bF aO,bF aP,CV.sl aQ,CV.str aR,bF aU,bF aV,bF aW,CV.sl aX,CV.str aY,bF a1,bF a2,bF a3,CV.sl a4,CV.str a5,bF a8,bF a9,bF ba,CV.sl bb,CV.str bc])) a7)) pP) pP) pP) pP) pP) pP) pP) pP) pP) pP) pP) pP) pP) pP) pP) pP:=bw
def YR (a b:List CV)(c d e f:Int)(g:List UInt8)(h:List CV):SegD:=⟨H73,[(1,1),(5,0)],cN 73 116,mS [(1,LV.osl a),(5,LV.loc 0 0),(24,LV.cv (CV.sl b)),(25,bv c),(26,bv d)] [Ob.cells [bv e,bv f,LV.str g,LV.osl h]]⟩
def KL (a b:List CV)(c d e f:Int)(g:List UInt8)(h:List CV)(i:Mu):=(YR a b c d e f g h).loop ρ i
def YD (a:List CV)(b:CV)(c:List CV)(d e f g:Int)(h:List UInt8)(i:List CV):SegD:=⟨H73,[(1,1),(5,0),(24,2),(25,0),(26,0)],cN 73 7475,mS [(1,LV.osl a),(5,LV.loc 0 0),(7,LV.cv b),(24,LV.cv (CV.sl c)),(25,bv d),(26,bv e)] [Ob.cells [bv f,bv g,LV.str h,LV.osl i]]⟩
def adL (a:List CV)(b:CV)(c:List CV)(d e f g:Int)(h:List UInt8)(i:List CV)(j:Mu):=(YD a b c d e f g h i).seg ρ j
def ED (a b:List CV)(c d e f:Int)(g:List UInt8)(h:List CV)(i:Mu):St:= .norm (mS [(1,LV.osl a),(5,LV.loc 0 0),(24,LV.cv (CV.sl b)),(25,bv c),(26,bv d)] [Ob.cells [bv e,bv f,LV.str g,LV.osl h]]) i
def abD (a:CV)(b:Mu):St:= .panic a (mS [] []) b
def EQ (a:List CV)(b c:Int)(d:List UInt8)(e:List CV)(f:Mu):St:= .exit 0 (mS [(1,LV.osl a),(5,LV.loc 0 0)] [Ob.cells [bv b,bv c,LV.str d,LV.osl e]]) f
def afr (c d e f g h i j a k):(YD c d e f g h i j a).sK ρ k=callK (ρ.call 73 [LV.cv d,LV.osl c] k) (λl m=>opt (iJ l) λb=>bD (eq 1 a [bF (IntKind.wrap .i64 ((b.length:Int) -1))]) (some (ED b e f g h i j (a++[bF (IntKind.wrap .i64 ((b.length:Int) -1))]) m))) (pX abD):=bw
def Wc (a b c d e f g h i):kR ρ H73 [.block 1,.seq (cN 73 935)] [(1,1),(5,0)] (cN 73 116) (ED a b c d e f g h i)=KL ρ a b c (IntKind.wrap .i64 (d+1)) e f g h i:=bw
def Iz (c d e a f g h b i):(YR c d e a f g h b).rK ρ i=cond (decide (a<e)) (opt (cT d a) λj=>bD (dJ j) (opt (uJ (LV.cv j)) λk=>cond (k) (bD (eq 1 b [bF (-1)]) (KL ρ c d e (IntKind.wrap .i64 (a+1)) f g h (b++[bF (-1)]) i)) (opt (adL ρ c j d e a f g h b i) (kR ρ H73 [.block 1,.seq (cN 73 935)] [(1,1),(5,0)] (cN 73 116))))) (some (EQ c f g h b i)):=bw
def Wu (a b c d e f):kB ρ 73 H73 [.block 0,.seq (cN 73 15)] (EQ a b c d e f)=bD (eq 4 a [CV.agg [bF b,bF c,CV.str d,CV.sl e]]) (some (.ret (LV.osl (a++[CV.agg [bF b,bF c,CV.str d,CV.sl e]])) f)):=bw
def ahm (b c d a e f):bJ E ρ 73 [LV.cv (CV.view [bF b,bF c,CV.str d,CV.sl a]),LV.osl e] f=opt (KL ρ e a (a.length:Int) 0 b c d [] f) (kB ρ 73 H73 [.block 0,.seq (cN 73 15)]):=bw
def akR (b f w c a):bJ E ρ 76 [LV.cv (CV.view [bF b,bF f,CV.str w,CV.sl c])] a=cond (decide (b=6)) (cond (decide ((c.length:Int)=1)) (opt (cT c 0) λd=>bD (dJ d) (opt (lZ (LV.cv d)) λx=>bD (!x) (opt (iU (LV.cv (mt d))) λy=>opt (bG y) λg=>opt (bN .i64 (LV.cv g.1)) λz=>opt (bG g.2) λh=>opt (bN .i64 (LV.cv h.1)) λZ=>opt (bG h.2) λi=>opt (cg (LV.cv i.1)) λaa=>opt (bG i.2) λj=>opt (cj (LV.cv j.1)) λab=>opt (bZ j.2) λac=>cond (decide (z=0)) (opt (lZ (LV.cv d)) λA=>bD (!A) (opt (iU (LV.cv (mt d))) λB=>opt (bG B) λk=>opt (bN .i64 (LV.cv k.1)) λad=>opt (bG k.2) λl=>opt (bN .i64 (LV.cv l.1)) λC=>opt (bG l.2) λm=>opt (cg (LV.cv m.1)) λae=>opt (bG m.2) λn=>opt (cj (LV.cv n.1)) λaf=>opt (bZ n.2) λag=>callK (ρ.call 123 [bv C] a) (λD F=>opt (bO D) λG=>some (.ret (LV.bool G) F)) pP)) (some (.ret (LV.bool false) a))))) (cond (decide (b=0)) (callK (ρ.call 123 [bv f] a) (λH I=>opt (bO H) λJ=>some (.ret (LV.bool J) I)) pP) (some (.ret (LV.bool false) a)))) (cond (decide (b=7)) (cond (decide ((c.length:Int)=1)) (opt (cT c 0) λe=>bD (dJ e) (opt (lZ (LV.cv e)) λK=>bD (!K) (opt (iU (LV.cv (mt e))) λL=>opt (bG L) λo=>opt (bN .i64 (LV.cv o.1)) λM=>opt (bG o.2) λp=>opt (bN .i64 (LV.cv p.1)) λah=>opt (bG p.2) λq=>opt (cg (LV.cv q.1)) λai=>opt (bG q.2) λr=>opt (cj (LV.cv r.1)) λaj=>opt (bZ r.2) λak=>cond (decide (M=0)) (opt (lZ (LV.cv e)) λN=>bD (!N) (opt (iU (LV.cv (mt e))) λO=>opt (bG O) λs=>opt (bN .i64 (LV.cv s.1)) λal=>opt (bG s.2) λt=>opt (bN .i64 (LV.cv t.1)) λP=>opt (bG t.2) λu=>opt (cg (LV.cv u.1)) λam=>opt (bG u.2) λv=>opt (cj (LV.cv v.1)) λan=>opt (bZ v.2) λao=>callK (ρ.call 123 [bv P] a) (λQ R=>opt (bO Q) λS=>some (.ret (LV.bool S) R)) pP)) (some (.ret (LV.bool false) a))))) (cond (decide (b=0)) (callK (ρ.call 123 [bv f] a) (λT U=>opt (bO T) λV=>some (.ret (LV.bool V) U)) pP) (some (.ret (LV.bool false) a)))) (cond (decide (b=0)) (callK (ρ.call 123 [bv f] a) (λW X=>opt (bO W) λY=>some (.ret (LV.bool Y) X)) pP) (some (.ret (LV.bool false) a)))):=bw
def YE (a:List CV)(b:Int):SegD:=⟨H79,[(4,0)],cN 79 7,mS [(0,LV.cv (CV.sl a)),(1,bv b)] []⟩
def FO (a:List CV)(b:Int)(c:Mu):=(YE a b).seg ρ c
def yv (a:Bool)(b:Mu):St:= .ret (mS [(4,LV.bool a)] []) b
def abE (a:CV)(b:Mu):St:= .panic a (mS [] []) b
def afs (a b c):(YE a b).sK ρ c=opt (cT a b) λd=>ko (LV.cv d) λe k l m=>cond (decide (e=0)) (opt (cT a b) λf=>ko (LV.cv f) λn g o p=>callK (ρ.call 30 [bv g,bv 0,bv 2] c) (λh i=>opt (bO h) λj=>some (yv j i)) (pX abE)) (some (yv false c)):=bw
def Wd (a b):kB ρ 79 H79 [] (yv a b)=some (.ret (LV.bool a) b):=bw
def akS (a b c):bJ E ρ 79 [LV.cv (CV.sl a),bv b] c=opt (cT a b) λd=>ko (LV.cv d) λe p q r=>cond (decide (e=6)) (opt (cT a b) λf=>ko (LV.cv f) λs t u g=>opt (cT g 0) λh=>opt (bN .i64 (LV.cv h)) λi=>opt (FO ρ a i c) (kB ρ 79 H79 [])) (opt (cT a b) λj=>ko (LV.cv j) λk v w x=>cond (decide (k=7)) (opt (cT a b) λl=>ko (LV.cv l) λy z A m=>opt (cT m 0) λn=>opt (bN .i64 (LV.cv n)) λo=>opt (FO ρ a o c) (kB ρ 79 H79 [])) (opt (FO ρ a b c) (kB ρ 79 H79 []))):=bw
def YF (a:List UInt8):SegD:=⟨H81,[(2,0)],cN 81 7,mS [(0,LV.str a)] []⟩
def adM (a:List UInt8)(b:Mu):=(YF a).seg ρ b
def YS (a:List UInt8)(b c:Int):SegD:=⟨H81,[],cN 81 116,mS [(0,LV.str a),(19,bv b),(20,bv c)] []⟩
def FT (a:List UInt8)(b c:Int)(d:Mu):=(YS a b c).loop ρ d
def ER (a:Bool)(b:Mu):St:= .ret (mS [(2,LV.bool a)] []) b
def LR (a:CV)(b:Mu):St:= .panic a (mS [] []) b
def ES (a:Mu):St:= .exit 0 (mS [] []) a
def yw (a:Bool)(b:Mu):St:= .ret (mS [(2,LV.bool a)] []) b
def Ua (b c a d):(YS b c a).rK ρ d=cond (decide (a<c)) (opt (dm b a) λe=>cond (!decide ((e.toNat:Int)=95)) (callK (ρ.call 124 [LV.int .u8 (e.toNat:Int)] d) (λh f=>opt (bO h) λi=>cond (!i) (callK (ρ.call 125 [LV.int .u8 (e.toNat:Int)] f) (λj g=>opt (bO j) λk=>cond (!k) (some (ER false g)) (FT ρ b c (IntKind.wrap .i64 (a+1)) g)) (pX LR)) (FT ρ b c (IntKind.wrap .i64 (a+1)) f)) (pX LR)) (FT ρ b c (IntKind.wrap .i64 (a+1)) d)) (some (ES d)):=bw
def Wv (a b):kS ρ H81 [.block 0,.seq (cN 81 15)] [(2,0)] (ER a b)=some (yw a b):=bw
def Ww (a):kS ρ H81 [.block 0,.seq (cN 81 15)] [(2,0)] (ES a)=some (yw true a):=bw
def aft (a b):(YF a).sK ρ b=opt (FT ρ a (a.length:Int) 0 b) (kS ρ H81 [.block 0,.seq (cN 81 15)] [(2,0)]):=bw
def We (a b):kB ρ 81 H81 [] (yw a b)=some (.ret (LV.bool a) b):=bw
def akT (a b):bJ E ρ 81 [LV.str a] b=cond (decide (a=([]:List UInt8))) (some (.ret (LV.bool false) b)) (cond (decide (31<(a.length:Int))) (some (.ret (LV.bool false) b)) (opt (dm a 0) λd=>callK (ρ.call 124 [LV.int .u8 (d.toNat:Int)] b) (λe c=>opt (bO e) λf=>cond (!f) (some (.ret (LV.bool false) c)) (opt (adM ρ a c) (kB ρ 81 H81 []))) pP)):=bw
def akU (a b c):bJ E ρ 82 [LV.cv (CV.sl a),LV.str b] c=callK (ρ.call 126 [LV.cv (CV.sl a),LV.str b] c) (λd e=>opt (bN .i64 d) λf=>some (.ret (LV.bool (decide (0<=f))) e)) pP:=bw
def YT (a:List UInt8)(b:Bool)(c:List CV)(d e:Int):SegD:=⟨H84,[(5,0)],cN 84 116,mS [(1,LV.str a),(5,LV.bool b),(8,LV.cv (CV.sl c)),(9,bv d),(10,bv e)] []⟩
def KM (a:List UInt8)(b:Bool)(c:List CV)(d e:Int)(f:Mu):=(YT a b c d e).loop ρ f
def ET (a:Bool)(b:Mu):St:= .exit 0 (mS [(5,LV.bool a)] []) b
def Ub (b f c d a e):(YT b f c d a).rK ρ e=cond (decide (a<d)) (opt (cT c a) λg=>opt (cg (LV.cv g)) λh=>cond (f) (KM ρ b true c d (IntKind.wrap .i64 (a+1)) e) (KM ρ b (decide (h=b)) c d (IntKind.wrap .i64 (a+1)) e)) (some (ET f e)):=bw
def Wx (a b):kB ρ 84 H84 [.block 0,.seq (cN 84 15)] (ET a b)=some (.ret (LV.bool a) b):=bw
def akV (a b c):bJ E ρ 84 [LV.cv (CV.sl a),LV.str b] c=opt (KM ρ b false a (a.length:Int) 0 c) (kB ρ 84 H84 [.block 0,.seq (cN 84 15)]):=bw
def YG (a:CV)(b:Int):SegD:=⟨H85,[(4,2),(5,0),(6,0)],cN 85 15,mS [(7,LV.cv a),(8,bv b)] []⟩
def adN (a:CV)(b:Int)(c:Mu):=(YG a b).seg ρ c
def EE (a:List CV)(b c:Int)(d:Mu):St:= .ret (mS [(4,LV.cv (CV.sl a)),(5,bv b),(6,bv c)] []) d
def afu (a b c):(YG a b).sK ρ c=opt (lZ (LV.cv a)) λh=>bD (!h) (opt (iU (LV.cv (mt a))) λi=>opt (bG i) λd=>opt (cg (LV.cv d.1)) λk=>opt (bG d.2) λe=>opt (bO (LV.cv e.1)) λl=>opt (bG e.2) λf=>opt (cj (LV.cv f.1)) λj=>opt (bG f.2) λg=>opt (cj (LV.cv g.1)) λm=>opt (bZ g.2) λn=>some (EE j b 0 c)):=bw
def Wf (a b c d):kB ρ 85 H85 [] (EE a b c d)=some (.ret (LV.ltup [LV.cv (CV.sl a),bv b,bv c]) d):=bw
def akW (a b c):bJ E ρ 85 [LV.str a,LV.bool b] c=callK (ρ.call 127 [LV.str a,LV.bool b] c) (λj d=>opt (ci j) λk=>opt (bG k) λe=>opt (cW e.1) λl=>opt (bG e.2) λf=>opt (bN .i64 f.1) λg=>opt (bG f.2) λh=>opt (bN .i64 h.1) λi=>opt (bZ h.2) λm=>cond (!decide (i=0)) (some (.ret (LV.ltup [LV.cv (CV.v (.slice none 0 0)),bv g,bv i]) d)) (opt (adN ρ l g d) (kB ρ 85 H85 []))) pP:=bw
def YH (a b:List CV):SegD:=⟨H86,[(4,0)],cN 86 7,mS [(0,LV.cv (CV.sl a)),(1,LV.cv (CV.sl b))] []⟩
def adO (a b:List CV)(c:Mu):=(YH a b).seg ρ c
def uo (a:Bool)(b:Mu):St:= .ret (mS [(4,LV.bool a)] []) b
def afv (a b c):(YH a b).sK ρ c=opt (cT a 0) λd=>opt (bN .i64 (LV.cv d)) λe=>opt (cT b 0) λf=>opt (bN .i64 (LV.cv f)) λg=>cond (decide (e<g)) (some (uo true c)) (opt (cT a 0) λh=>opt (bN .i64 (LV.cv h)) λi=>opt (cT b 0) λj=>opt (bN .i64 (LV.cv j)) λk=>cond (decide (i=k)) (bD (pc 1 1 a) (opt (gc a 1 (a.length:Int)) λl=>bD (pc 1 1 b) (opt (gc b 1 (b.length:Int)) λm=>callK (ρ.call 86 [LV.cv (CV.sl l),LV.cv (CV.sl m)] c) (λn o=>opt (bO n) λp=>some (uo p o)) pN))) (some (uo false c))):=bw
def Wg (a b):kB ρ 86 H86 [] (uo a b)=some (.ret (LV.bool a) b):=bw
def ahn (a b c):bJ E ρ 86 [LV.cv (CV.sl a),LV.cv (CV.sl b)] c=cond (decide ((a.length:Int)=0)) (some (.ret (LV.bool (decide ((a.length:Int)<(b.length:Int)))) c)) (cond (decide ((b.length:Int)=0)) (some (.ret (LV.bool (decide ((a.length:Int)<(b.length:Int)))) c)) (opt (adO ρ a b c) (kB ρ 86 H86 []))):=bw
def YI (a:List UInt8):SegD:=⟨H90,[],cN 90 213,mS [(1,LV.str a)] []⟩
def KI (a:List UInt8)(b:Mu):=(YI a).seg ρ b
def yx (a:Int)(b:Mu):St:= .ret (mS [(4,bv a)] []) b
def abF (a:CV)(b:Mu):St:= .panic a (mS [] []) b
def S9 (a:Int)(b:List UInt8)(c:Bool):SegD:=⟨H90,[],cN 90 215,mS [(0,bv a),(1,LV.str b),(39,LV.bool c)] []⟩
def ud (a:Int)(b:List UInt8)(c:Bool)(d:Mu):=(S9 a b c).seg ρ d
def mK (a:Int)(b:Mu):St:= .ret (mS [(4,bv a)] []) b
def XU (a:CV)(b:Mu):St:= .panic a (mS [] []) b
def AQ (a:Mu):St:= .norm (mS [] []) a
def afw (a b):(YI a).sK ρ b=callK (ρ.call 133 [LV.str a] b) (λf c=>opt (ci f) λg=>opt (bG g) λd=>opt (bN .i64 d.1) λh=>opt (bG d.2) λe=>opt (cW e.1) λi=>opt (bZ e.2) λj=>cond (decide (2147483647<h)) (some (yx 28 c)) (some (yx 0 c))) (pX abF):=bw
def Wh (a b):kB ρ 90 H90 [.block 0,.seq (cN 90 7)] (yx a b)=some (.ret (bv a) b):=bw
def NA (d b e c):(S9 d b e).sK ρ c=cond (e) (callK (ρ.call 134 [LV.str b] c) (λh a=>opt (ci h) λi=>opt (bG i) λf=>iy f.1 λj k l=>opt (bG f.2) λg=>opt (bO g.1) λm=>opt (bZ g.2) λn=>cond (!m) (some (mK 3 a)) (cond (!decide (j=1)) (some (mK 3 a)) (cond (!decide (k=d)) (some (mK 3 a)) (cond (!decide (l=b)) (some (mK 3 a)) (some (mK 0 a)))))) (pX XU)) (some (AQ c)):=bw
def QY (a b):kB ρ 90 H90 [.block 0,.seq (cN 90 7)] (mK a b)=some (.ret (bv a) b):=bw
def QZ (a):kB ρ 90 H90 [.block 0,.seq (cN 90 7)] (AQ a)=some (.ret (bv 15) a):=bw
def akX (a b c):bJ E ρ 90 [bv a,LV.str b] c=cond (decide (a=0)) (cond (decide (b=([]:List UInt8))) (some (.ret (bv 3) c)) (cond (decide (10<(b.length:Int))) (some (.ret (bv 3) c)) (callK (ρ.call 131 [LV.str b,LV.cv (CV.clo 132 [])] c) (λe d=>opt (bO e) λf=>cond (f) (some (.ret (bv 3) d)) (opt (dm b 0) λg=>cond (decide ((g.toNat:Int)=48)) (cond (!decide (b=([48]:List UInt8))) (some (.ret (bv 3) d)) (opt (KI ρ b d) (kB ρ 90 H90 [.block 0,.seq (cN 90 7)]))) (opt (KI ρ b d) (kB ρ 90 H90 [.block 0,.seq (cN 90 7)])))) pP))) (cond (decide (a=1)) (opt (ud ρ a b (decide (a=1)) c) (kB ρ 90 H90 [.block 0,.seq (cN 90 7)])) (cond (decide (a=2)) (opt (ud ρ a b (decide (a=2)) c) (kB ρ 90 H90 [.block 0,.seq (cN 90 7)])) (cond (decide (a=5)) (opt (ud ρ a b (decide (a=5)) c) (kB ρ 90 H90 [.block 0,.seq (cN 90 7)])) (opt (ud ρ a b (decide (a=6)) c) (kB ρ 90 H90 [.block 0,.seq (cN 90 7)]))))):=bw
def akY (a b):bJ E ρ 91 [LV.str a] b=cond (!decide (a=([]:List UInt8))) (cond (decide ((a.length:Int)<=31)) (opt (dm a 0) λe=>callK (ρ.call 135 [LV.int .u8 (e.toNat:Int)] b) (λf c=>opt (bO f) λg=>cond (g) (callK (ρ.call 136 [LV.str a] c) (λh d=>opt (cg h) λi=>cond (decide (i=a)) (callK (ρ.call 131 [LV.str a,LV.cv (CV.clo 137 [])] d) (λj k=>opt (bO j) λl=>some (.ret (LV.bool (!l)) k)) pP) (some (.ret (LV.bool false) d))) pP) (some (.ret (LV.bool false) c))) pP) (some (.ret (LV.bool false) b))) (some (.ret (LV.bool false) b)):=bw
def akZ (a):bJ E ρ 92 [] a=some (.ret (LV.osl [CV.str [46,76,84,46],CV.str [46,76,69,46],CV.str [46,69,81,46],CV.str [46,78,69,46],CV.str [46,71,69,46],CV.str [46,71,84,46],CV.str [46,78,79,84,46],CV.str [46,65,78,68,46],CV.str [46,79,82,46],CV.str [46,69,81,86,46],CV.str [46,78,69,81,86,46]]) a):=bw
def ak0 (a):bJ E ρ 93 [] a=some (.ret (LV.osl [CV.str [42,42],CV.str [47,47],CV.str [61,62],CV.str [42],CV.str [47],CV.str [43],CV.str [45],CV.str [40],CV.str [41],CV.str [44],CV.str [58],CV.str [61],CV.str [37]]) a):=bw
def aho (b c d e a):jN E ρ 94 none [LV.cv (CV.ref b c 0),LV.cv (CV.ref d e 0)] a=some a:=bw
def ahp (f a b d e c):jN E ρ 94 (some (CV.iface 137 (CV.agg [bF f]))) [LV.cv (CV.ref a b 0),LV.cv (CV.ref d e 0)] c=opt (dv E.P 91 (ce c a b) 0 (LV.cv (CV.v (.pointer none)))) λg=>opt (dv E.P 25 (ce (cx c a b g) d e) 0 (bv f)) λh=>some (cx (cx c a b g) d e h):=bw
def ak1 (a b c):bJ E ρ 95 [LV.cv (CV.ref a b 0)] c=callK (ρ.call 139 [LV.cv (CV.ref a b 0),bv 1] c) (λd e=>opt (cW d) λf=>some (.ret (LV.cv f) e)) pP:=bw
def YU (a:Int)(b:List CV)(c d:Int):SegD:=⟨H96,[(3,0)],cN 96 116,mS [(3,bv a),(9,LV.cv (CV.sl b)),(10,bv c),(11,bv d)] []⟩
def KN (a:Int)(b:List CV)(c d:Int)(e:Mu):=(YU a b c d).loop ρ e
def abI (a:CV)(b:Mu):St:= .panic a (mS [] []) b
def EU (a:Int)(b:Mu):St:= .exit 0 (mS [(3,bv a)] []) b
def IA (b c d a e):(YU b c d a).rK ρ e=cond (decide (a<d)) (opt (cT c a) λf=>bD (dJ f) (opt (uJ (LV.cv f)) λg=>cond (!g) (callK (ρ.call 96 [LV.cv f] e) (λh i=>opt (bN .i64 h) λj=>KN ρ (IntKind.wrap .i64 (b+j)) c d (IntKind.wrap .i64 (a+1)) i) (pX abI)) (KN ρ b c d (IntKind.wrap .i64 (a+1)) e))) (some (EU b e)):=bw
def Wy (a b):kB ρ 96 H96 [.block 0,.seq (cN 96 15)] (EU a b)=some (.ret (bv a) b):=bw
def ak2 (c d e a b):bJ E ρ 96 [LV.cv (CV.view [bF c,bF d,CV.str e,CV.sl a])] b=opt (KN ρ 1 a (a.length:Int) 0 b) (kB ρ 96 H96 [.block 0,.seq (cN 96 15)]):=bw
def ak3 (a b c):bJ E ρ 97 [LV.cv (CV.sl a),LV.cv (CV.clo b [])] c=callK (ρ.call 140 [LV.cv (CV.sl a),LV.cv (CV.clo b [])] c) (λd e=>opt (bN .i64 d) λf=>some (.ret (LV.bool (decide (0<=f))) e)) pP:=bw
def ak4 (a b c d e):bJ E ρ 98 [LV.cv (CV.view [bF a,bF b,CV.str c,CV.sl d])] e=callK (ρ.call 58 [LV.cv (CV.view [bF a,bF b,CV.str c,CV.sl d])] e) (λf g=>opt (bO f) λh=>some (.ret (LV.bool h) g)) pP:=bw
def ak5 (c d a e):bJ E ρ 99 [LV.cv (CV.agg [bF c,bF d,CV.str a])] e=callK (ρ.call 30 [bv c,bv 0,bv 2] e) (λi b=>opt (bO i) λj=>cond (!j) (some (.ret (bv 15) b)) (cond (decide (c=1)) (callK (ρ.call 122 [bv d,LV.str a] b) (λk l=>opt (bN .i64 k) λm=>some (.ret (bv m) l)) pP) (cond (!decide (d=0)) (some (.ret (bv 3) b)) (cond (decide (c=0)) (callK (ρ.call 44 [LV.str a] b) (λn f=>opt (bO n) λo=>cond (!o) (some (.ret (bv 4) f)) (some (.ret (bv 0) f))) pP) (callK (ρ.call 109 [] b) (λp q=>opt (cj p) λr=>callK (ρ.call 84 [LV.cv (CV.sl r),LV.str a] q) (λs g=>opt (bO s) λt=>cond (!t) (callK (ρ.call 113 [] g) (λu v=>opt (cj u) λw=>callK (ρ.call 84 [LV.cv (CV.sl w),LV.str a] v) (λx h=>opt (bO x) λy=>cond (!y) (some (.ret (bv 7) h)) (some (.ret (bv 0) h))) pN) pN) (some (.ret (bv 0) g))) pN) pN))))) pP:=bw
def Sk (a b:Nat):SegD:=⟨jA,[(2,2),(3,0)],cN 100 7,mS [(0,LV.cv (CV.ref a b 0))] []⟩
def af2 (a b:Nat)(c:Mu):=(Sk a b).seg ρ c
def jf (a:List CV)(b:Bool)(c:Mu):St:= .ret (mS [(2,LV.cv (CV.sl a)),(3,LV.bool b)] []) c
def L8 (a b:Nat)(c d:Int)(e:List UInt8):SegD:=⟨jA,[],cN 100 3997,mS [(0,LV.cv (CV.ref a b 0)),(4,LV.loc 0 0)] [Ob.cells [bv c,bv d,LV.str e]]⟩
def aet (a b:Nat)(c d:Int)(e:List UInt8)(f:Mu):=(L8 a b c d e).seg ρ f
def ME (a b:Nat)(c:List CV)(d e:Int)(f:List UInt8):SegD:=⟨jA,[],cN 100 31980,mS [(0,LV.cv (CV.ref a b 0)),(4,LV.loc 0 0),(5,LV.osl c)] [Ob.cells [bv d,bv e,LV.str f]]⟩
def CG (a b:Nat)(c:List CV)(d e:Int)(f:List UInt8)(g:Mu):=(ME a b c d e f).loop ρ g
def pE (a:List CV)(b:Bool)(c:Mu):St:= .ret (mS [(2,LV.cv (CV.sl a)),(3,LV.bool b)] []) c
def L9 (a b:Nat)(c d:List CV)(e f:Int)(g:List UInt8):SegD:=⟨jA,[(0,0),(4,0),(5,1)],cN 100 255843,mS [(0,LV.cv (CV.ref a b 0)),(4,LV.loc 0 0),(5,LV.osl c),(6,LV.cv (CV.sl d))] [Ob.cells [bv e,bv f,LV.str g]]⟩
def aeu (a b:Nat)(c d:List CV)(e f:Int)(g:List UInt8)(h:Mu):=(L9 a b c d e f g).seg ρ h
def xW (a:List CV)(b:Bool)(c:Mu):St:= .ret (mS [(2,LV.cv (CV.sl a)),(3,LV.bool b)] []) c
def xX (a:CV)(b:Mu):St:= .panic a (mS [] []) b
def FZ (a b:Nat)(c:List CV)(d e:Int)(f:List UInt8)(g:Mu):St:= .norm (mS [(0,LV.cv (CV.ref a b 0)),(4,LV.loc 0 0),(5,LV.osl c)] [Ob.cells [bv d,bv e,LV.str f]]) g
def U1 (a:CV)(b:Mu):St:= .panic a (mS [] []) b
def FY (a:List CV)(b:Bool)(c:Mu):St:= .ret (mS [(2,LV.cv (CV.sl a)),(3,LV.bool b)] []) c
def u5 (a:CV)(b:Mu):St:= .panic a (mS [] []) b
def Ma (a b:Nat)(c:List CV)(d:Bool):SegD:=⟨jA,[],cN 100 31995,mS [(0,LV.cv (CV.ref a b 0)),(8,LV.cv (CV.sl c)),(9,LV.bool d)] []⟩
def wu (a b:Nat)(c:List CV)(d:Bool)(e:Mu):=(Ma a b c d).seg ρ e
def xY (a:List CV)(b:Bool)(c:Mu):St:= .ret (mS [(2,LV.cv (CV.sl a)),(3,LV.bool b)] []) c
def nh (a:CV)(b:Mu):St:= .panic a (mS [] []) b
def ii (a:Mu):St:= .norm (mS [] []) a
def ZV (a b c d f g e h):(L9 a b c d f g e).sK ρ h=bD (eq 1 c [CV.sl d]) (callK (ρ.call 101 [LV.cv (CV.ref a b 0),LV.str [41]] h) (λk i=>opt (bO k) λl=>cond (l) (callK (ρ.call 45 [LV.cv (CV.agg [bF 2,bF 0,CV.str e,CV.v (.slice none 0 0)]),LV.osl (c++[CV.sl d])] i) (λm n=>opt (cj m) λo=>some (xW o true n)) (pX xX)) (callK (ρ.call 101 [LV.cv (CV.ref a b 0),LV.str [44]] i) (λp j=>opt (bO p) λq=>cond (!q) (some (xW [] false j)) (some (FZ a b (c++[CV.sl d]) f g e j))) (pX xX))) (pX xX)):=bw
def BQ (a b c):kR ρ jA [.block 2] [] (cN 100 31980) (xW a b c)=some (pE a b c):=bw
def NW (a b c d e f g):kR ρ jA [.block 2] [] (cN 100 31980) (FZ a b c d e f g)=CG ρ a b c d e f g:=bw
def aam (a b c d e f g):(ME a b c d e f).rK ρ g=callK (ρ.call 141 [LV.cv (CV.ref a b 0)] g) (λk h=>opt (ci k) λl=>opt (bG l) λi=>opt (cj i.1) λm=>opt (bG i.2) λj=>opt (bO j.1) λn=>opt (bZ j.2) λo=>cond (!n) (some (pE [] false h)) (opt (aeu ρ a b c m d e f h) (kR ρ jA [.block 2] [] (cN 100 31980)))) (pX U1):=bw
def Ov (a b c):kS ρ jA [.block 1] [] (pE a b c)=some (FY a b c):=bw
def ZU (a b c d e f):(L8 a b c d e).sK ρ f=opt (CG ρ a b [] c d e f) (kS ρ jA [.block 1] []):=bw
def NV (a b c):kS ρ jA [.block 0,.seq (cN 100 63)] [(2,2),(3,0)] (FY a b c)=some (jf a b c):=bw
def JY (b c a g f):(Ma b c a g).sK ρ f=cond (g) (callK (ρ.call 101 [LV.cv (CV.ref b c 0),LV.str [44]] f) (λn h=>opt (bO n) λo=>cond (o) (callK (ρ.call 60 [LV.cv (CV.ref b c 0),bv 1] h) (λp i=>opt (ci p) λq=>opt (bG q) λj=>opt (cj j.1) λd=>opt (bG j.2) λk=>opt (bO k.1) λr=>opt (bZ k.2) λC=>cond (r) (callK (ρ.call 101 [LV.cv (CV.ref b c 0),LV.str [41]] i) (λs l=>opt (bO s) λt=>cond (t) (callK (ρ.call 79 [LV.cv (CV.sl a),bv (IntKind.wrap .i64 ((a.length:Int) -1))] l) (λu m=>opt (bO u) λw=>cond (w) (callK (ρ.call 79 [LV.cv (CV.sl d),bv (IntKind.wrap .i64 ((d.length:Int) -1))] m) (λx e=>opt (bO x) λy=>cond (y) (cond (decide ((a.length:Int)<=2)) (cond (decide ((d.length:Int)<=2)) (callK (ρ.call 45 [LV.cv (CV.agg [bF 4,bF 0,CV.str [],CV.v (.slice none 0 0)]),LV.osl [CV.sl a,CV.sl d]] e) (λz A=>opt (cj z) λB=>some (xY B true A)) (pX nh)) (some (ii e))) (some (ii e))) (some (ii e))) (pX nh)) (some (ii m))) (pX nh)) (some (ii l))) (pX nh)) (some (ii i))) (pX nh)) (some (ii h))) (pX nh)) (some (ii f)):=bw
def NX (a b c):kS ρ jA [.block 0,.seq (cN 100 63)] [(2,2),(3,0)] (xY a b c)=some (jf a b c):=bw
def BR (a):kS ρ jA [.block 0,.seq (cN 100 63)] [(2,2),(3,0)] (ii a)=some (jf [] false a):=bw
def acj (a b c):(Sk a b).sK ρ c=opt (cw E.P 35 (ce c a b) 0) λo=>opt (cj o) λp=>opt (cw E.P 3 (ce c a b) 1) λq=>opt (bN .i64 q) λr=>opt (cT p r) λs=>iy (LV.cv s) λf i d=>opt (cw E.P 3 (ce c a b) 1) λt=>opt (bN .i64 t) λu=>opt (dv E.P 3 (ce c a b) 1 (bv (IntKind.wrap .i64 (u+1)))) λe=>cond (decide (f=1)) (some (jf [CV.agg [bF 0,bF i,CV.str d,CV.v (.slice none 0 0)]] true (cx c a b e))) (cond (decide (f=0)) (callK (ρ.call 101 [LV.cv (CV.ref a b 0),LV.str [40]] (cx c a b e)) (λw j=>opt (bO w) λx=>cond (!x) (some (jf [CV.agg [bF 1,bF 0,CV.str d,CV.v (.slice none 0 0)]] true j)) (opt (aet ρ a b f i d j) (kS ρ jA [.block 0,.seq (cN 100 63)] [(2,2),(3,0)]))) (pX u5)) (cond (decide (d=([40]:List UInt8))) (callK (ρ.call 60 [LV.cv (CV.ref a b 0),bv 1] (cx c a b e)) (λy k=>opt (ci y) λz=>opt (bG z) λl=>opt (cj l.1) λg=>opt (bG l.2) λm=>opt (bO m.1) λh=>opt (bZ m.2) λG=>cond (h) (callK (ρ.call 101 [LV.cv (CV.ref a b 0),LV.str [41]] k) (λA n=>opt (bO A) λB=>cond (B) (callK (ρ.call 45 [LV.cv (CV.agg [bF 5,bF 0,CV.str [],CV.v (.slice none 0 0)]),LV.osl [CV.sl g]] n) (λC D=>opt (cj C) λF=>some (jf F true D)) (pX u5)) (opt (wu ρ a b g h n) (kS ρ jA [.block 0,.seq (cN 100 63)] [(2,2),(3,0)]))) (pX u5)) (opt (wu ρ a b g h k) (kS ρ jA [.block 0,.seq (cN 100 63)] [(2,2),(3,0)]))) (pX u5)) (some (jf [] false (cx c a b e))))):=bw
def PZ (a b c):kB ρ 100 jA [] (jf a b c)=some (.ret (LV.ltup [LV.cv (CV.sl a),LV.bool b]) c):=bw
def ain (b c a):bJ E ρ 100 [LV.cv (CV.ref b c 0)] a=opt (cw E.P 3 (ce a b c) 1) λd=>opt (bN .i64 d) λe=>opt (cw E.P 35 (ce a b c) 0) λf=>opt (cj f) λg=>cond (decide ((g.length:Int)<=e)) (some (.ret (LV.ltup [LV.cv (CV.v (.slice none 0 0)),LV.bool false]) a)) (opt (af2 ρ b c a) (kB ρ 100 jA [])):=bw
def aio (a b d e):bJ E ρ 101 [LV.cv (CV.ref a b 0),LV.str d] e=callK (ρ.call 102 [LV.cv (CV.ref a b 0),LV.str d] e) (λf c=>opt (bO f) λg=>cond (g) (opt (cw E.P 3 (ce c a b) 1) λh=>opt (bN .i64 h) λi=>opt (dv E.P 3 (ce c a b) 1 (bv (IntKind.wrap .i64 (i+1)))) λj=>some (.ret (LV.bool true) (cx c a b j))) (some (.ret (LV.bool false) c))) pP:=bw
def aip (b c d a):bJ E ρ 102 [LV.cv (CV.ref b c 0),LV.str d] a=opt (cw E.P 3 (ce a b c) 1) λe=>opt (bN .i64 e) λf=>opt (cw E.P 35 (ce a b c) 0) λg=>opt (cj g) λh=>cond (decide (f<(h.length:Int))) (opt (cw E.P 35 (ce a b c) 0) λi=>opt (cj i) λj=>opt (cw E.P 3 (ce a b c) 1) λk=>opt (bN .i64 k) λl=>opt (cT j l) λm=>iy (LV.cv m) λn o p=>some (.ret (LV.bool (decide (n=2)&&(decide (o=0)&&(decide (p=d)&&true)))) a)) (some (.ret (LV.bool false) a)):=bw
def Ta (a:List CV)(b c d:Int)(e:List UInt8):SegD:=⟨Ls,[],cN 103 116,mS [(1,LV.loc 0 0),(4,LV.cv (CV.sl a)),(5,bv b)] [Ob.cells [bv c,bv d,LV.str e]]⟩
def FP (a:List CV)(b c d:Int)(e:List UInt8)(f:Mu):=(Ta a b c d e).loop ρ f
def AR (a:Int)(b:Bool)(c:Mu):St:= .ret (mS [(2,bv a),(3,LV.bool b)] []) c
def AS (a:Mu):St:= .exit 0 (mS [] []) a
def NB (b a d f e c):(Ta b a d f e).rK ρ c=cond (decide (a<(b.length:Int))) (cond (decide (d=2)) (opt (cT b a) λg=>opt (cg (LV.cv g)) λh=>cond (decide (e=h)) (some (AR (IntKind.wrap .i64 (9+a)) true c)) (FP ρ b (IntKind.wrap .i64 (a+1)) d f e c)) (FP ρ b (IntKind.wrap .i64 (a+1)) d f e c)) (some (AS c)):=bw
def Q0 (a b c):kB ρ 103 Ls [.block 0,.seq (cN 103 15)] (AR a b c)=some (.ret (LV.ltup [bv a,LV.bool b]) c):=bw
def Q1 (a):kB ρ 103 Ls [.block 0,.seq (cN 103 15)] (AS a)=some (.ret (LV.ltup [bv 0,LV.bool false]) a):=bw
def aiq (a b c d):bJ E ρ 103 [LV.cv (CV.agg [bF a,bF b,CV.str c])] d=opt (FP ρ [CV.str [42,42],CV.str [42],CV.str [47],CV.str [43],CV.str [45],CV.str [47,47],CV.str [46,76,84,46],CV.str [46,76,69,46],CV.str [46,69,81,46],CV.str [46,78,69,46],CV.str [46,71,69,46],CV.str [46,71,84,46],CV.str [46,65,78,68,46],CV.str [46,79,82,46],CV.str [46,69,81,86,46],CV.str [46,78,69,81,86,46]] 0 a b c d) (kB ρ 103 Ls [.block 0,.seq (cN 103 15)]):=bw
def Sl (a:List UInt8):SegD:=⟨z6,[(4,0)],cN 104 7,mS [(0,LV.str a)] []⟩
def Xf (a:List UInt8)(b:Mu):=(Sl a).seg ρ b
def Tb (a:List UInt8)(b:Int):SegD:=⟨z6,[],cN 104 116,mS [(0,LV.str a),(5,bv b)] []⟩
def Lw (a:List UInt8)(b:Int)(c:Mu):=(Tb a b).loop ρ c
def AT (a:Bool)(b:Mu):St:= .ret (mS [(4,LV.bool a)] []) b
def XV (a:CV)(b:Mu):St:= .panic a (mS [] []) b
def AU (a:Mu):St:= .exit 0 (mS [] []) a
def u6 (a:Bool)(b:Mu):St:= .ret (mS [(4,LV.bool a)] []) b
def NC (a b c):(Tb a b).rK ρ c=cond (decide (b<(a.length:Int))) (opt (dm a b) λe=>callK (ρ.call 30 [bv (IntKind.wrap .i64 (e.toNat:Int)),bv 32,bv 126] c) (λf d=>opt (bO f) λg=>cond (!g) (some (AT false d)) (Lw ρ a (IntKind.wrap .i64 (b+1)) d)) (pX XV)) (some (AU c)):=bw
def Q2 (a b):kS ρ z6 [.block 0,.seq (cN 104 15)] [(4,0)] (AT a b)=some (u6 a b):=bw
def Q3 (a):kS ρ z6 [.block 0,.seq (cN 104 15)] [(4,0)] (AU a)=some (u6 true a):=bw
def ack (a b):(Sl a).sK ρ b=opt (Lw ρ a 0 b) (kS ρ z6 [.block 0,.seq (cN 104 15)] [(4,0)]):=bw
def P0 (a b):kB ρ 104 z6 [] (u6 a b)=some (.ret (LV.bool a) b):=bw
def air (a c b):bJ E ρ 104 [LV.str a,bv c] b=cond (decide (c<(a.length:Int))) (some (.ret (LV.bool false) b)) (opt (Xf ρ a b) (kB ρ 104 z6 [])):=bw
def ais (a b):bJ E ρ 105 [LV.int .u8 a] b=cond (decide (65<=a)) (cond (decide (a<=90)) (some (.ret (LV.bool true) b)) (cond (decide (97<=a)) (some (.ret (LV.bool (decide (a<=122))) b)) (some (.ret (LV.bool false) b)))) (cond (decide (97<=a)) (some (.ret (LV.bool (decide (a<=122))) b)) (some (.ret (LV.bool false) b))):=bw
def ait (a b):bJ E ρ 106 [LV.int .u8 a] b=cond (decide (48<=a)) (some (.ret (LV.bool (decide (a<=57))) b)) (some (.ret (LV.bool false) b)):=bw
def Tc (a:Nat)(b:Int)(c:List CV):SegD:=⟨UG,[(3,0)],cN 107 116,mS [(3,LV.lsl 0 0 a),(4,bv b)] [Ob.arr 1 c]⟩
def wD (a:Nat)(b:Int)(c:List CV)(d:Mu):=(Tc a b c).loop ρ d
def vu (a:Nat)(b:List CV)(c:Mu):St:= .exit 0 (mS [(3,LV.lsl 0 0 a)] [Ob.arr 1 b]) c
def ND (b a c d):(Tc b a c).rK ρ d=cond (decide (a<(b:Int))) (bD (fo a b) (opt (cw E.P 5 (Ob.arr 1 c) (0+(a).toNat*1)) λf=>opt (bN .u8 f) λg=>cond (decide (97<=g)) (bD (fo a b) (opt (cw E.P 5 (Ob.arr 1 c) (0+(a).toNat*1)) λh=>opt (bN .u8 h) λi=>cond (decide (i<=122)) (bD (fo a b) (opt (cw E.P 5 (Ob.arr 1 c) (0+(a).toNat*1)) λj=>opt (bN .u8 j) λe=>bD (fo a b) (bD (fJ 1 (CV.int .u8 (IntKind.wrap .u8 (IntKind.wrap .u8 (e-97)+65)))&&Nat.ble (0+(a).toNat*1+1) (c.length)) (wD ρ b (IntKind.wrap .i64 (a+1)) (dG c (0+(a).toNat*1) (CV.cells (CV.int .u8 (IntKind.wrap .u8 (IntKind.wrap .u8 (e-97)+65))))) d)))) (wD ρ b (IntKind.wrap .i64 (a+1)) c d))) (wD ρ b (IntKind.wrap .i64 (a+1)) c d))) (some (vu b c d)):=bw
def Q4 (a b c):kB ρ 107 UG [.block 0,.seq (cN 107 15)] (vu a b c)=bD (Nat.ble (0+a) (b.length)) (opt (dg (List.take a (List.drop 0 b))) λd=>some (.ret (LV.str d) c)):=bw
def aiu (a b):bJ E ρ 107 [LV.str a] b=bD (small (a.length)) (opt (wD ρ (a.length) 0 (dD a) b) (kB ρ 107 UG [.block 0,.seq (cN 107 15)])):=bw
def Td (a:List UInt8)(b c d:Int)(e:Bool)(f:List CV)(g h i j:Int)(k:List UInt8)(l m:Int):SegD:=⟨dC,[(0,0),(1,0),(4,0),(5,0),(6,0),(7,0)],cN 108 500,mS [(0,LV.str a),(1,bv b),(4,LV.loc 0 0),(5,bv c),(6,bv d),(7,LV.bool e),(30,LV.cv (CV.sl f)),(31,bv g),(32,bv h)] [Ob.cells [bv i,bv j,LV.str k,bv l,bv m]]⟩
def z7 (a:List UInt8)(b c d:Int)(e:Bool)(f:List CV)(g h i j:Int)(k:List UInt8)(l m:Int)(n:Mu):=(Td a b c d e f g h i j k l m).loop ρ n
def XW (a:CV)(b:Mu):St:= .panic a (mS [] []) b
def AV (a:List UInt8)(b c d:Int)(e:Bool)(f g:Int)(h:List UInt8)(i j:Int)(k:Mu):St:= .exit 0 (mS [(0,LV.str a),(1,bv b),(4,LV.loc 0 0),(5,bv c),(6,bv d),(7,LV.bool e)] [Ob.cells [bv f,bv g,LV.str h,bv i,bv j]]) k
def Mb (a:List UInt8)(b c d:Int)(e f:Bool)(g h i:Int)(j:List UInt8)(k l:Int):SegD:=⟨dC,[(4,0)],cN 108 255,mS [(0,LV.str a),(1,bv b),(4,LV.loc 0 0),(5,bv c),(6,bv d),(7,LV.bool e),(10,LV.bool f),(11,bv g)] [Ob.cells [bv h,bv i,LV.str j,bv k,bv l]]⟩
def tJ (a:List UInt8)(b c d:Int)(e f:Bool)(g h i:Int)(j:List UInt8)(k l:Int)(m:Mu):=(Mb a b c d e f g h i j k l).seg ρ m
def Mc (a:List UInt8)(b c d:Int)(e:Bool)(f g h:Int)(i:Bool)(j k l:Int)(m:List UInt8)(n o:Int):SegD:=⟨dC,[(0,0),(1,0),(4,0),(5,0),(6,0),(10,0),(11,0),(12,0),(13,0),(14,0)],cN 108 32747,mS [(0,LV.str a),(1,bv b),(4,LV.loc 0 0),(5,bv c),(6,bv d),(10,LV.bool e),(11,bv f),(12,bv g),(13,bv h),(14,LV.bool i),(15,bv j)] [Ob.cells [bv k,bv l,LV.str m,bv n,bv o]]⟩
def fB (a:List UInt8)(b c d:Int)(e:Bool)(f g h:Int)(i:Bool)(j k l:Int)(m:List UInt8)(n o:Int)(p:Mu):=(Mc a b c d e f g h i j k l m n o).seg ρ p
def xZ (a b:Int)(c:List UInt8)(d e:Int)(f:Mu):St:= .ret (mS [(4,LV.loc 0 0)] [Ob.cells [bv a,bv b,LV.str c,bv d,bv e]]) f
def Md (a:List UInt8)(b c d:Int)(e:Bool)(f g h i j k:Int)(l:List UInt8)(m n:Int):SegD:=⟨dC,[(0,0),(1,0),(4,0),(5,0),(6,0),(10,0),(11,0),(12,0),(13,0),(14,0)],cN 108 523965,mS [(0,LV.str a),(1,bv b),(4,LV.loc 0 0),(5,bv c),(6,bv d),(10,LV.bool e),(11,bv f),(12,bv g),(15,bv h),(16,bv i)] [Ob.cells [bv j,bv k,LV.str l,bv m,bv n]]⟩
def RZ (a:List UInt8)(b c d:Int)(e:Bool)(f g h i j k:Int)(l:List UInt8)(m n:Int)(o:Mu):=(Md a b c d e f g h i j k l m n).seg ρ o
def Me (a:List UInt8)(b c d:Int)(e:Bool)(f g h:Int)(i:Bool)(j k l m:Int)(n:List UInt8)(o p:Int):SegD:=⟨dC,[(0,0),(1,0),(4,0),(5,0),(6,0),(10,0),(11,0),(12,0),(13,0),(14,0)],cN 108 4191727,mS [(0,LV.str a),(1,bv b),(4,LV.loc 0 0),(5,bv c),(6,bv d),(10,LV.bool e),(11,bv f),(12,bv g),(13,bv h),(14,LV.bool i),(15,bv j),(16,bv k)] [Ob.cells [bv l,bv m,LV.str n,bv o,bv p]]⟩
def HL (a:List UInt8)(b c d:Int)(e:Bool)(f g h:Int)(i:Bool)(j k l m:Int)(n:List UInt8)(o p:Int)(q:Mu):=(Me a b c d e f g h i j k l m n o p).seg ρ q
def px (a:List UInt8)(b c d:Int)(e:Bool)(f g h:Int)(i:Bool)(j k:Int)(l:List UInt8)(m n:Int)(o:Mu):St:= .norm (mS [(0,LV.str a),(1,bv b),(4,LV.loc 0 0),(5,bv c),(6,bv d),(10,LV.bool e),(11,bv f),(12,bv g),(13,bv h),(14,LV.bool i)] [Ob.cells [bv j,bv k,LV.str l,bv m,bv n]]) o
def x5 (a:List UInt8)(b c d:Int)(e:Bool)(f g h:Int)(i:Bool)(j k:Int)(l:List UInt8)(m n:Int)(o:Mu):St:= .norm (mS [(0,LV.str a),(1,bv b),(4,LV.loc 0 0),(5,bv c),(6,bv d),(10,LV.bool e),(11,bv f),(12,bv g),(13,bv h),(14,LV.bool i)] [Ob.cells [bv j,bv k,LV.str l,bv m,bv n]]) o
def UW (a:CV)(b:Mu):St:= .panic a (mS [] []) b
def pw (a:List UInt8)(b c d:Int)(e:Bool)(f g h:Int)(i:Bool)(j k:Int)(l:List UInt8)(m n:Int)(o:Mu):St:= .norm (mS [(0,LV.str a),(1,bv b),(4,LV.loc 0 0),(5,bv c),(6,bv d),(10,LV.bool e),(11,bv f),(12,bv g),(13,bv h),(14,LV.bool i)] [Ob.cells [bv j,bv k,LV.str l,bv m,bv n]]) o
def UV (a:CV)(b:Mu):St:= .panic a (mS [] []) b
def kz (a b:Int)(c:List UInt8)(d e:Int)(f:Mu):St:= .ret (mS [(4,LV.loc 0 0)] [Ob.cells [bv a,bv b,LV.str c,bv d,bv e]]) f
def Mf (a:List UInt8)(b c d:Int)(e:Bool)(f g h:Int)(i:Bool)(j k:Int)(l:List UInt8)(m n:Int):SegD:=⟨dC,[(4,0)],cN 108 2047,mS [(0,LV.str a),(1,bv b),(4,LV.loc 0 0),(5,bv c),(6,bv d),(10,LV.bool e),(11,bv f),(12,bv g),(13,bv h),(14,LV.bool i)] [Ob.cells [bv j,bv k,LV.str l,bv m,bv n]]⟩
def tK (a:List UInt8)(b c d:Int)(e:Bool)(f g h:Int)(i:Bool)(j k:Int)(l:List UInt8)(m n:Int)(o:Mu):=(Mf a b c d e f g h i j k l m n).seg ρ o
def ni (a b:Int)(c:List UInt8)(d e:Int)(f:Mu):St:= .ret (mS [(4,LV.loc 0 0)] [Ob.cells [bv a,bv b,LV.str c,bv d,bv e]]) f
def Mg (a:List UInt8)(b c d e f:Int)(g:List UInt8)(h i:Int):SegD:=⟨dC,[(0,0),(1,0),(4,0),(5,0),(6,0),(10,0),(11,0),(12,0),(13,0)],cN 108 32757,mS [(0,LV.str a),(1,bv b),(4,LV.loc 0 0),(5,bv c),(6,bv d)] [Ob.cells [bv e,bv f,LV.str g,bv h,bv i]]⟩
def R0 (a:List UInt8)(b c d e f:Int)(g:List UInt8)(h i:Int)(j:Mu):=(Mg a b c d e f g h i).seg ρ j
def py (a b:Int)(c:List UInt8)(d e:Int)(f:Mu):St:= .ret (mS [(4,LV.loc 0 0)] [Ob.cells [bv a,bv b,LV.str c,bv d,bv e]]) f
def UX (a:CV)(b:Mu):St:= .panic a (mS [] []) b
def Mh (a:List UInt8)(b c d:Int)(e:Bool)(f g h i j:Int)(k:List UInt8)(l m:Int):SegD:=⟨dC,[(4,0)],cN 108 4095,mS [(0,LV.str a),(1,bv b),(4,LV.loc 0 0),(5,bv c),(6,bv d),(10,LV.bool e),(11,bv f),(12,bv g),(13,bv h)] [Ob.cells [bv i,bv j,LV.str k,bv l,bv m]]⟩
def CE (a:List UInt8)(b c d:Int)(e:Bool)(f g h i j:Int)(k:List UInt8)(l m:Int)(n:Mu):=(Mh a b c d e f g h i j k l m).seg ρ n
def Mi (a:List UInt8)(b c d e f:Int)(g:List UInt8)(h i:Int)(j:List UInt8)(k l:Int):SegD:=⟨dC,[(4,0)],cN 108 16383,mS [(0,LV.str a),(1,bv b),(4,LV.loc 0 0),(5,bv c),(6,bv d),(12,bv e),(13,bv f),(18,LV.str g)] [Ob.cells [bv h,bv i,LV.str j,bv k,bv l]]⟩
def HM (a:List UInt8)(b c d e f:Int)(g:List UInt8)(h i:Int)(j:List UInt8)(k l:Int)(m:Mu):=(Mi a b c d e f g h i j k l).seg ρ m
def pz (a b:Int)(c:List UInt8)(d e:Int)(f:Mu):St:= .ret (mS [(4,LV.loc 0 0)] [Ob.cells [bv a,bv b,LV.str c,bv d,bv e]]) f
def Mj (a b c:Int)(d e:List UInt8)(f g:Int)(h:List UInt8)(i j:Int):SegD:=⟨dC,[(4,0)],cN 108 65535,mS [(4,LV.loc 0 0),(6,bv a),(12,bv b),(13,bv c),(19,LV.str d),(20,LV.str e)] [Ob.cells [bv f,bv g,LV.str h,bv i,bv j]]⟩
def R5 (a b c:Int)(d e:List UInt8)(f g:Int)(h:List UInt8)(i j:Int)(k:Mu):=(Mj a b c d e f g h i j).seg ρ k
def pA (a b:Int)(c:List UInt8)(d e:Int)(f:Mu):St:= .ret (mS [(4,LV.loc 0 0)] [Ob.cells [bv a,bv b,LV.str c,bv d,bv e]]) f
def F0 (a:CV)(b:Mu):St:= .panic a (mS [] []) b
def nj (a:CV)(b:Mu):St:= .panic a (mS [] []) b
def sX (a b:Int)(c:List UInt8)(d e:Int)(f:Mu):St:= .ret (mS [(4,LV.loc 0 0)] [Ob.cells [bv a,bv b,LV.str c,bv d,bv e]]) f
def NE (a e b c n f g d h i j k l m):(Td a e b c n f g d h i j k l).rK ρ m=cond (decide (d<g)) (opt (cT f d) λo=>opt (cg (LV.cv o)) λp=>cond (n) (z7 ρ a e b c true f g (IntKind.wrap .i64 (d+1)) h i j k l m) (cond (decide (0<b)) (callK (ρ.call 110 [LV.str a,bv c,LV.str p] m) (λq r=>opt (bO q) λs=>z7 ρ a e b c s f g (IntKind.wrap .i64 (d+1)) h i j k l r) (pX XW)) (z7 ρ a e b c false f g (IntKind.wrap .i64 (d+1)) h i j k l m))) (some (AV a e b c n h i j k l m)):=bw
def ZZ (a b c p d e q f g h i j k l m n o):(Me a b c p d e q f g h i j k l m n).sK ρ o=opt (dm a p) λr=>cond (decide ((r.toNat:Int)=68)) (some (px a b c (IntKind.wrap .i64 (h+i)) d e 2 f g j k l m n o)) (opt (dm a p) λs=>cond (decide ((s.toNat:Int)=100)) (some (px a b c (IntKind.wrap .i64 (h+i)) d e 2 f g j k l m n o)) (some (px a b c (IntKind.wrap .i64 (h+i)) d e q f g j k l m n o))):=bw
def BU (a b c d e f g h i j k l m n o):kS ρ dC [] [(0,0),(1,0),(4,0),(5,0),(6,0),(10,0),(11,0),(12,0),(13,0),(14,0)] (px a b c d e f g h i j k l m n o)=some (x5 a b c d e f g h i j k l m n o):=bw
def ZY (b d e f g h i a c j k l m n o):(Md b d e f g h i a c j k l m n).sK ρ o=opt (gc b a (IntKind.wrap .i64 (a+c))) λr=>callK (ρ.call 143 [LV.str r] o) (λs p=>opt (bN .i64 s) λq=>opt (dm b (IntKind.wrap .i64 (a-1))) λt=>cond (decide ((t.toNat:Int)=45)) (opt (HL ρ b d e f g h i (IntKind.wrap .i64 (0-q)) true a c j k l m n p) (kS ρ dC [] [(0,0),(1,0),(4,0),(5,0),(6,0),(10,0),(11,0),(12,0),(13,0),(14,0)])) (opt (HL ρ b d e f g h i q true a c j k l m n p) (kS ρ dC [] [(0,0),(1,0),(4,0),(5,0),(6,0),(10,0),(11,0),(12,0),(13,0),(14,0)]))) (pX UW):=bw
def NZ (a b c d e f g h i j k l m n o):kS ρ dC [] [(0,0),(1,0),(4,0),(5,0),(6,0),(10,0),(11,0),(12,0),(13,0),(14,0)] (x5 a b c d e f g h i j k l m n o)=some (pw a b c d e f g h i j k l m n o):=bw
def ZX (a b c d e f g p q h i j k l m r):(Mc a b c d e f g p q h i j k l m).sK ρ r=callK (ρ.call 142 [LV.str a,bv h] r) (λs n=>opt (bN .i64 s) λo=>cond (decide (0<o)) (cond (decide (3<o)) (some (xZ 0 0 ([]:List UInt8) 0 7 n)) (opt (RZ ρ a b c d e f g h o i j k l m n) (kS ρ dC [] [(0,0),(1,0),(4,0),(5,0),(6,0),(10,0),(11,0),(12,0),(13,0),(14,0)]))) (some (pw a b c d e f g p q i j k l m n))) (pX UV):=bw
def NY (a b c d e f):kS ρ dC [.seq (cN 108 2047)] [(4,0)] (xZ a b c d e f)=some (kz a b c d e f):=bw
def Z1 (e b f c h i j k l g):(Mg e b f c h i j k l).sK ρ g=opt (gc e b (IntKind.wrap .i64 (b+f))) λm=>callK (ρ.call 144 [LV.str m] g) (λn d=>opt (cg n) λa=>cond (decide ((a.length:Int)=10)) (cond (!(Op.bytesLess a ([50,49,52,55,52,56,51,54,52,55]:List UInt8)||decide (a=([50,49,52,55,52,56,51,54,52,55]:List UInt8)))) (some (py 0 0 ([]:List UInt8) 0 28 d)) (some (py 1 0 a c 0 d))) (some (py 1 0 a c 0 d))) (pX UX):=bw
def BW (a b c d e f):kS ρ dC [.seq (cN 108 4095)] [(4,0)] (py a b c d e f)=some (ni a b c d e f):=bw
def Z3 (d c e a b i j k l m f):(Mj d c e a b i j k l m).sK ρ f=bD (small (a.length+List.length ([46]:List UInt8))) (bD (small (List.length (a++[46])+b.length)) (cond (decide (c=2)) (bD (small (List.length ((a++[46])++b)+List.length ([68]:List UInt8))) (callK (ρ.call 148 [bv e] f) (λn o=>opt (cg n) λg=>bD (small (List.length (((a++[46])++b)++[68])+g.length)) (some (pA 1 c ((((a++[46])++b)++[68])++g) d 0 o))) (pX F0))) (cond (!decide (e=0)) (bD (small (List.length ((a++[46])++b)+List.length ([69]:List UInt8))) (callK (ρ.call 148 [bv e] f) (λp q=>opt (cg p) λh=>bD (small (List.length (((a++[46])++b)++[69])+h.length)) (some (pA 1 c ((((a++[46])++b)++[69])++h) d 0 q))) (pX F0))) (some (pA 1 c ((a++[46])++b) d 0 f))))):=bw
def N1 (a b c d e f):kS ρ dC [] [(4,0)] (pA a b c d e f)=some (pz a b c d e f):=bw
def Z2 (b a c d e f g h i j k l m):(Mi b a c d e f g h i j k l).sK ρ m=opt (gc b a (IntKind.wrap .i64 (a+c))) λq=>callK (ρ.call 145 [LV.str q] m) (λr s=>opt (cg r) λt=>callK (ρ.call 144 [LV.str t] s) (λu v=>opt (cg u) λn=>callK (ρ.call 145 [LV.str g] v) (λw x=>opt (cg w) λy=>callK (ρ.call 146 [LV.str y] x) (λz A=>opt (cg z) λo=>callK (ρ.call 147 [LV.str n] A) (λB C=>opt (bN .i64 B) λD=>callK (ρ.call 147 [LV.str o] C) (λE p=>opt (bN .i64 E) λF=>cond (decide (30<IntKind.wrap .i64 (D+F))) (some (pz 0 0 ([]:List UInt8) 0 7 p)) (opt (R5 ρ d e f n o h i j k l p) (kS ρ dC [] [(4,0)]))) (pX nj)) (pX nj)) (pX nj)) (pX nj)) (pX nj)) (pX nj):=bw
def BY (a b c d e f):kS ρ dC [] [(4,0)] (pz a b c d e f)=some (sX a b c d e f):=bw
def JZ (c a b d m n e f g h i j k l):(Mh c a b d m n e f g h i j k).sK ρ l=cond (m) (opt (gc c (IntKind.wrap .i64 (IntKind.wrap .i64 (a+b)+1)) (IntKind.wrap .i64 (IntKind.wrap .i64 (IntKind.wrap .i64 (a+b)+1)+n))) λo=>opt (HM ρ c a b d e f o g h i j k l) (kS ρ dC [] [(4,0)])) (opt (HM ρ c a b d e f ([]:List UInt8) g h i j k l) (kS ρ dC [] [(4,0)])):=bw
def BX (a b c d e f):kS ρ dC [] [(4,0)] (sX a b c d e f)=some (ni a b c d e f):=bw
def Z0 (c d a e f l m n o g h i j k b):(Mf c d a e f l m n o g h i j k).sK ρ b=cond (!f) (cond (!o) (cond (decide (10<a)) (some (ni 0 0 ([]:List UInt8) 0 28 b)) (opt (R0 ρ c d a e g h i j k b) (kS ρ dC [.seq (cN 108 4095)] [(4,0)]))) (opt (CE ρ c d a e f l m n g h i j k b) (kS ρ dC [] [(4,0)]))) (opt (CE ρ c d a e f l m n g h i j k b) (kS ρ dC [] [(4,0)])):=bw
def BV (a b c d e f):kS ρ dC [] [(4,0)] (ni a b c d e f)=some (kz a b c d e f):=bw
def BT (a b c d e f g h i j k l m n o):kS ρ dC [.seq (cN 108 2047)] [(4,0)] (pw a b c d e f g h i j k l m n o)=opt (tK ρ a b c d e f g h i j k l m n o) (kS ρ dC [] [(4,0)]):=bw
def ZW (b c d a m e f g h i j k l):(Mb b c d a m e f g h i j k).sK ρ l=cond (!m) (cond (decide (a<(b.length:Int))) (opt (dm b a) λn=>cond (decide ((n.toNat:Int)=69)) (cond (decide (IntKind.wrap .i64 (a+1)<(b.length:Int))) (opt (dm b (IntKind.wrap .i64 (a+1))) λo=>cond (decide ((o.toNat:Int)=43)) (opt (fB ρ b c d a e f 1 0 false (IntKind.wrap .i64 (IntKind.wrap .i64 (a+1)+1)) g h i j k l) (kS ρ dC [.seq (cN 108 2047)] [(4,0)])) (opt (dm b (IntKind.wrap .i64 (a+1))) λp=>cond (decide ((p.toNat:Int)=45)) (opt (fB ρ b c d a e f 1 0 false (IntKind.wrap .i64 (IntKind.wrap .i64 (a+1)+1)) g h i j k l) (kS ρ dC [.seq (cN 108 2047)] [(4,0)])) (opt (fB ρ b c d a e f 1 0 false (IntKind.wrap .i64 (a+1)) g h i j k l) (kS ρ dC [.seq (cN 108 2047)] [(4,0)])))) (opt (fB ρ b c d a e f 1 0 false (IntKind.wrap .i64 (a+1)) g h i j k l) (kS ρ dC [.seq (cN 108 2047)] [(4,0)]))) (opt (dm b a) λq=>cond (decide ((q.toNat:Int)=101)) (cond (decide (IntKind.wrap .i64 (a+1)<(b.length:Int))) (opt (dm b (IntKind.wrap .i64 (a+1))) λr=>cond (decide ((r.toNat:Int)=43)) (opt (fB ρ b c d a e f 1 0 false (IntKind.wrap .i64 (IntKind.wrap .i64 (a+1)+1)) g h i j k l) (kS ρ dC [.seq (cN 108 2047)] [(4,0)])) (opt (dm b (IntKind.wrap .i64 (a+1))) λs=>cond (decide ((s.toNat:Int)=45)) (opt (fB ρ b c d a e f 1 0 false (IntKind.wrap .i64 (IntKind.wrap .i64 (a+1)+1)) g h i j k l) (kS ρ dC [.seq (cN 108 2047)] [(4,0)])) (opt (fB ρ b c d a e f 1 0 false (IntKind.wrap .i64 (a+1)) g h i j k l) (kS ρ dC [.seq (cN 108 2047)] [(4,0)])))) (opt (fB ρ b c d a e f 1 0 false (IntKind.wrap .i64 (a+1)) g h i j k l) (kS ρ dC [.seq (cN 108 2047)] [(4,0)]))) (opt (dm b a) λt=>cond (decide ((t.toNat:Int)=68)) (cond (decide (IntKind.wrap .i64 (a+1)<(b.length:Int))) (opt (dm b (IntKind.wrap .i64 (a+1))) λu=>cond (decide ((u.toNat:Int)=43)) (opt (fB ρ b c d a e f 1 0 false (IntKind.wrap .i64 (IntKind.wrap .i64 (a+1)+1)) g h i j k l) (kS ρ dC [.seq (cN 108 2047)] [(4,0)])) (opt (dm b (IntKind.wrap .i64 (a+1))) λv=>cond (decide ((v.toNat:Int)=45)) (opt (fB ρ b c d a e f 1 0 false (IntKind.wrap .i64 (IntKind.wrap .i64 (a+1)+1)) g h i j k l) (kS ρ dC [.seq (cN 108 2047)] [(4,0)])) (opt (fB ρ b c d a e f 1 0 false (IntKind.wrap .i64 (a+1)) g h i j k l) (kS ρ dC [.seq (cN 108 2047)] [(4,0)])))) (opt (fB ρ b c d a e f 1 0 false (IntKind.wrap .i64 (a+1)) g h i j k l) (kS ρ dC [.seq (cN 108 2047)] [(4,0)]))) (opt (dm b a) λw=>cond (decide ((w.toNat:Int)=100)) (cond (decide (IntKind.wrap .i64 (a+1)<(b.length:Int))) (opt (dm b (IntKind.wrap .i64 (a+1))) λx=>cond (decide ((x.toNat:Int)=43)) (opt (fB ρ b c d a e f 1 0 false (IntKind.wrap .i64 (IntKind.wrap .i64 (a+1)+1)) g h i j k l) (kS ρ dC [.seq (cN 108 2047)] [(4,0)])) (opt (dm b (IntKind.wrap .i64 (a+1))) λy=>cond (decide ((y.toNat:Int)=45)) (opt (fB ρ b c d a e f 1 0 false (IntKind.wrap .i64 (IntKind.wrap .i64 (a+1)+1)) g h i j k l) (kS ρ dC [.seq (cN 108 2047)] [(4,0)])) (opt (fB ρ b c d a e f 1 0 false (IntKind.wrap .i64 (a+1)) g h i j k l) (kS ρ dC [.seq (cN 108 2047)] [(4,0)])))) (opt (fB ρ b c d a e f 1 0 false (IntKind.wrap .i64 (a+1)) g h i j k l) (kS ρ dC [.seq (cN 108 2047)] [(4,0)]))) (opt (tK ρ b c d a e f 1 0 false g h i j k l) (kS ρ dC [] [(4,0)])))))) (opt (tK ρ b c d a e f 1 0 false g h i j k l) (kS ρ dC [] [(4,0)]))) (opt (tK ρ b c d a e f 1 0 false g h i j k l) (kS ρ dC [] [(4,0)])):=bw
def BS (a b c d e f):kB ρ 108 dC [] (kz a b c d e f)=some (.ret (LV.cv (CV.agg [bF a,bF b,CV.str c,bF d,bF e])) f):=bw
def Q5 (a d e b c f g h i j k):kB ρ 108 dC [.block 0,.seq (cN 108 63)] (AV a d e b c f g h i j k)=cond (!c) (cond (decide (b<(a.length:Int))) (opt (dm a b) λm=>cond (decide ((m.toNat:Int)=46)) (callK (ρ.call 142 [LV.str a,bv (IntKind.wrap .i64 (b+1))] k) (λn o=>opt (bN .i64 n) λl=>opt (tJ ρ a d e (IntKind.wrap .i64 (IntKind.wrap .i64 (b+1)+l)) c true l f g h i j o) (kB ρ 108 dC [])) pP) (opt (tJ ρ a d e b c false 0 f g h i j k) (kB ρ 108 dC []))) (opt (tJ ρ a d e b c false 0 f g h i j k) (kB ρ 108 dC []))) (opt (tJ ρ a d e b c false 0 f g h i j k) (kB ρ 108 dC [])):=bw
def aiv (b a d):bJ E ρ 108 [LV.str b,bv a] d=callK (ρ.call 142 [LV.str b,bv a] d) (λf g=>opt (bN .i64 f) λe=>callK (ρ.call 109 [] g) (λh i=>opt (iJ h) λc=>bD (eq 1 c [CV.str [46,84,82,85,69,46],CV.str [46,70,65,76,83,69,46]]) (opt (z7 ρ b a e (IntKind.wrap .i64 (a+e)) false (c++[CV.str [46,84,82,85,69,46],CV.str [46,70,65,76,83,69,46]]) (List.length (c++[CV.str [46,84,82,85,69,46],CV.str [46,70,65,76,83,69,46]]):Int) 0 0 0 ([]:List UInt8) 0 0 i) (kB ρ 108 dC [.block 0,.seq (cN 108 63)]))) pP) pP:=bw
def aiw (a):bJ E ρ 109 [] a=some (.ret (LV.osl [CV.str [46,76,84,46],CV.str [46,76,69,46],CV.str [46,69,81,46],CV.str [46,78,69,46],CV.str [46,71,69,46],CV.str [46,71,84,46],CV.str [46,78,79,84,46],CV.str [46,65,78,68,46],CV.str [46,79,82,46],CV.str [46,69,81,86,46],CV.str [46,78,69,81,86,46]]) a):=bw
def aix (c a b d):bJ E ρ 110 [LV.str c,bv a,LV.str b] d=cond (decide (IntKind.wrap .i64 (a+(b.length:Int))<=(c.length:Int))) (opt (gc c a (IntKind.wrap .i64 (a+(b.length:Int)))) λe=>callK (ρ.call 107 [LV.str e] d) (λf g=>opt (cg f) λh=>some (.ret (LV.bool (decide (h=b))) g)) pP) (some (.ret (LV.bool false) d)):=bw
def Te (a:List UInt8)(b:Int)(c:List UInt8)(d e f:Int)(g:List UInt8)(h i:Int):SegD:=⟨mF,[(4,0)],cN 111 244,mS [(0,LV.str a),(4,LV.loc 0 0),(5,LV.int .u8 b),(6,LV.str c),(7,bv d)] [Ob.cells [bv e,bv f,LV.str g,bv h,bv i]]⟩
def FQ (a:List UInt8)(b:Int)(c:List UInt8)(d e f:Int)(g:List UInt8)(h i:Int)(j:Mu):=(Te a b c d e f g h i).loop ρ j
def Sm (a:List UInt8)(b:Int)(c:List UInt8)(d e f:Int)(g:List UInt8)(h i:Int):SegD:=⟨mF,[(0,0),(4,0),(5,0),(6,0),(7,0)],cN 111 3913,mS [(0,LV.str a),(4,LV.loc 0 0),(5,LV.int .u8 b),(6,LV.str c),(7,bv d)] [Ob.cells [bv e,bv f,LV.str g,bv h,bv i]]⟩
def K9 (a:List UInt8)(b:Int)(c:List UInt8)(d e f:Int)(g:List UInt8)(h i:Int)(j:Mu):=(Sm a b c d e f g h i).seg ρ j
def Af (a:List UInt8)(b:Int)(c:List UInt8)(d e f:Int)(g:List UInt8)(h i:Int)(j:Mu):St:= .exit 1 (mS [(0,LV.str a),(4,LV.loc 0 0),(5,LV.int .u8 b),(6,LV.str c),(7,bv d)] [Ob.cells [bv e,bv f,LV.str g,bv h,bv i]]) j
def Mk (a:List UInt8)(b c d:Int)(e:List UInt8)(f g:Int):SegD:=⟨mF,[(0,0),(4,0),(5,0),(6,0),(7,0)],cN 111 7827,mS [(4,LV.loc 0 0),(6,LV.str a),(7,bv b)] [Ob.cells [bv c,bv d,LV.str e,bv f,bv g]]⟩
def CF (a:List UInt8)(b c d:Int)(e:List UInt8)(f g:Int)(h:Mu):=(Mk a b c d e f g).seg ρ h
def sY (a b:Int)(c:List UInt8)(d e:Int)(f:Mu):St:= .ret (mS [(4,LV.loc 0 0)] [Ob.cells [bv a,bv b,LV.str c,bv d,bv e]]) f
def Ml (a:List UInt8)(b c d:Int)(e:List UInt8)(f g:Int):SegD:=⟨mF,[(0,0),(4,0),(5,0),(6,0),(7,0)],cN 111 15655,mS [(4,LV.loc 0 0),(6,LV.str a),(7,bv b)] [Ob.cells [bv c,bv d,LV.str e,bv f,bv g]]⟩
def R6 (a:List UInt8)(b c d:Int)(e:List UInt8)(f g:Int)(h:Mu):=(Ml a b c d e f g).seg ρ h
def x6 (a b:Int)(c:List UInt8)(d e:Int)(f:Mu):St:= .ret (mS [(4,LV.loc 0 0)] [Ob.cells [bv a,bv b,LV.str c,bv d,bv e]]) f
def UY (a:CV)(b:Mu):St:= .panic a (mS [] []) b
def u7 (a b:Int)(c:List UInt8)(d e:Int)(f:Mu):St:= .ret (mS [(4,LV.loc 0 0)] [Ob.cells [bv a,bv b,LV.str c,bv d,bv e]]) f
def AW (a b:Int)(c:List UInt8)(d e:Int)(f:Mu):St:= .ret (mS [(4,LV.loc 0 0)] [Ob.cells [bv a,bv b,LV.str c,bv d,bv e]]) f
def AX (a b:Int)(c:List UInt8)(d e:Int)(f:Mu):St:= .exit 0 (mS [(4,LV.loc 0 0)] [Ob.cells [bv a,bv b,LV.str c,bv d,bv e]]) f
def Z5 (a b d e f g h c):(Ml a b d e f g h).sK ρ c=callK (ρ.call 149 [LV.str a] c) (λi j=>opt (cg i) λk=>some (x6 1 6 k (IntKind.wrap .i64 (b+1)) 0 j)) (pX UY):=bw
def N2 (a b c d e f):kS ρ mF [] [(0,0),(4,0),(5,0),(6,0),(7,0)] (x6 a b c d e f)=some (sY a b c d e f):=bw
def Z4 (a c d e f g h b):(Mk a c d e f g h).sK ρ b=cond (decide (60<(a.length:Int))) (some (sY 0 0 ([]:List UInt8) 0 8 b)) (opt (R6 ρ a c d e f g h b) (kS ρ mF [] [(0,0),(4,0),(5,0),(6,0),(7,0)])):=bw
def BZ (a b c d e f):kS ρ mF [] [(0,0),(4,0),(5,0),(6,0),(7,0)] (sY a b c d e f)=some (u7 a b c d e f):=bw
def Np (b j c a d e f g h i):(Sm b j c a d e f g h).sK ρ i=cond (decide (IntKind.wrap .i64 (a+1)<(b.length:Int))) (opt (dm b (IntKind.wrap .i64 (a+1))) λl=>cond (decide ((l.toNat:Int)=j)) (opt (gc b a (IntKind.wrap .i64 (a+1))) λk=>bD (small (c.length+k.length)) (some (Af b j (c++k) (IntKind.wrap .i64 (a+1)) d e f g h i))) (opt (CF ρ c a d e f g h i) (kS ρ mF [] [(0,0),(4,0),(5,0),(6,0),(7,0)]))) (opt (CF ρ c a d e f g h i) (kS ρ mF [] [(0,0),(4,0),(5,0),(6,0),(7,0)])):=bw
def P1 (a b c d e f g h i j):kR ρ mF [.block 1,.seq (cN 111 979)] [(4,0)] (cN 111 244) (Af a b c d e f g h i j)=FQ ρ a b c (IntKind.wrap .i64 (d+1)) e f g h i j:=bw
def DO (a b c d e f):kR ρ mF [.block 1,.seq (cN 111 979)] [(4,0)] (cN 111 244) (u7 a b c d e f)=some (AW a b c d e f):=bw
def NF (b c d a e f g h i j):(Te b c d a e f g h i).rK ρ j=cond (decide (a<(b.length:Int))) (opt (dm b a) λl=>cond (!decide ((l.toNat:Int)=c)) (opt (gc b a (IntKind.wrap .i64 (a+1))) λk=>bD (small (d.length+k.length)) (FQ ρ b c (d++k) (IntKind.wrap .i64 (a+1)) e f g h i j)) (opt (K9 ρ b c d a e f g h i j) (kR ρ mF [.block 1,.seq (cN 111 979)] [(4,0)] (cN 111 244)))) (some (AX e f g h i j)):=bw
def D1 (a b c d e f):kB ρ 111 mF [.block 0,.seq (cN 111 31)] (AW a b c d e f)=some (.ret (LV.cv (CV.agg [bF a,bF b,CV.str c,bF d,bF e])) f):=bw
def Q6 (b c d e f a):kB ρ 111 mF [.block 0,.seq (cN 111 31)] (AX b c d e f a)=some (.ret (LV.cv (CV.agg [bF 0,bF 0,CV.str [],bF 0,bF 7])) a):=bw
def aiy (a b c):bJ E ρ 111 [LV.str a,bv b] c=opt (dm a b) λd=>opt (FQ ρ a (d.toNat:Int) ([]:List UInt8) (IntKind.wrap .i64 (b+1)) 0 0 ([]:List UInt8) 0 0 c) (kB ρ 111 mF [.block 0,.seq (cN 111 31)]):=bw
def aiz (a):bJ E ρ 112 [] a=some (.ret (LV.osl [CV.agg [CV.str [60,61],CV.str [46,76,69,46]],CV.agg [CV.str [62,61],CV.str [46,71,69,46]],CV.agg [CV.str [61,61],CV.str [46,69,81,46]],CV.agg [CV.str [47,61],CV.str [46,78,69,46]],CV.agg [CV.str [60],CV.str [46,76,84,46]],CV.agg [CV.str [62],CV.str [46,71,84,46]]]) a):=bw
def aiA (a):bJ E ρ 113 [] a=some (.ret (LV.osl [CV.str [42,42],CV.str [47,47],CV.str [61,62],CV.str [42],CV.str [47],CV.str [43],CV.str [45],CV.str [40],CV.str [41],CV.str [44],CV.str [58],CV.str [61],CV.str [37]]) a):=bw
def aiB (a b):bJ E ρ 118 [LV.str a] b=callK (ρ.call 119 [bv 5,bv 6,bv 6,LV.str a] b) (λc d=>js c λe f g h i=>some (.ret (LV.cv (CV.agg [bF e,bF f,bF g,CV.sl h,CV.str i])) d)) pP:=bw
def aiC (a b c d e):bJ E ρ 119 [bv a,bv b,bv c,LV.str d] e=some (.ret (LV.cv (CV.agg [bF a,bF 2,bF 2,CV.sl [bF b,bF c],CV.str d])) e):=bw
def Sn (a:Int)(b:List UInt8):SegD:=⟨pn,[(4,0)],cN 122 7,mS [(0,bv a),(1,LV.str b)] []⟩
def Xg (a:Int)(b:List UInt8)(c:Mu):=(Sn a b).seg ρ c
def rG (a:Int)(b:Mu):St:= .ret (mS [(4,bv a)] []) b
def So (a:Int)(b:List UInt8):SegD:=⟨pn,[(4,0)],cN 122 15,mS [(0,bv a),(1,LV.str b)] []⟩
def wv (a:Int)(b:List UInt8)(c:Mu):=(So a b).seg ρ c
def rH (a:Int)(b:Mu):St:= .ret (mS [(4,bv a)] []) b
def Sp (a:Int)(b:List UInt8):SegD:=⟨pn,[(4,0)],cN 122 31,mS [(0,bv a),(1,LV.str b)] []⟩
def Xh (a:Int)(b:List UInt8)(c:Mu):=(Sp a b).seg ρ c
def oN (a:Int)(b:Mu):St:= .ret (mS [(4,bv a)] []) b
def XL (a:CV)(b:Mu):St:= .panic a (mS [] []) b
def XK (a:CV)(b:Mu):St:= .panic a (mS [] []) b
def XJ (a:CV)(b:Mu):St:= .panic a (mS [] []) b
def acn (c b d):(Sp c b).sK ρ d=callK (ρ.call 25 [LV.str b] d) (λi a=>opt (ci i) λj=>opt (bG j) λe=>opt (cj e.1) λf=>opt (bG e.2) λg=>opt (bN .i64 g.1) λp=>opt (bG g.2) λh=>opt (bN .i64 h.1) λk=>opt (bZ h.2) λq=>cond (!decide (k=0)) (some (oN 3 a)) (cond (!decide ((f.length:Int)=1)) (some (oN 3 a)) (opt (cT f 0) λl=>iy (LV.cv l) λm n o=>cond (!(decide (m=1)&&(decide (n=c)&&(decide (o=b)&&true)))) (some (oN 3 a)) (some (oN 0 a))))) (pX XL):=bw
def P5 (a b):kS ρ pn [] [(4,0)] (oN a b)=some (rH a b):=bw
def acm (c a b):(So c a).sK ρ b=cond (decide (122<(a.length:Int))) (some (rH 3 b)) (callK (ρ.call 62 [LV.str a] b) (λe d=>opt (bN .i64 e) λf=>cond (!decide (f=0)) (some (rH 3 d)) (opt (Xh ρ c a d) (kS ρ pn [] [(4,0)]))) (pX XK)):=bw
def P4 (a b):kS ρ pn [] [(4,0)] (rH a b)=some (rG a b):=bw
def acl (b a c):(Sn b a).sK ρ c=cond (decide (b=0)) (cond (decide ((a.length:Int)=10)) (callK (ρ.call 142 [LV.str a,bv 0] c) (λe d=>opt (bN .i64 e) λf=>cond (decide (f=10)) (opt (dm a 0) λg=>cond (!decide ((g.toNat:Int)=48)) (cond (!(Op.bytesLess a ([50,49,52,55,52,56,51,54,52,55]:List UInt8)||decide (a=([50,49,52,55,52,56,51,54,52,55]:List UInt8)))) (some (rG 28 d)) (opt (wv ρ b a d) (kS ρ pn [] [(4,0)]))) (opt (wv ρ b a d) (kS ρ pn [] [(4,0)]))) (opt (wv ρ b a d) (kS ρ pn [] [(4,0)]))) (pX XJ)) (opt (wv ρ b a c) (kS ρ pn [] [(4,0)]))) (opt (wv ρ b a c) (kS ρ pn [] [(4,0)])):=bw
def P3 (a b):kB ρ 122 pn [] (rG a b)=some (.ret (bv a) b):=bw
def aiD (a c d):bJ E ρ 122 [bv a,LV.str c] d=callK (ρ.call 30 [bv a,bv 0,bv 6] d) (λe b=>opt (bO e) λf=>cond (!f) (some (.ret (bv 15) b)) (cond (decide (a=3)) (some (.ret (bv 15) b)) (cond (decide (a=4)) (some (.ret (bv 15) b)) (opt (Xg ρ a c b) (kB ρ 122 pn []))))) pP:=bw
def aiE (a b):bJ E ρ 123 [bv a] b=cond (decide (a=0)) (some (.ret (LV.bool true) b)) (cond (decide (a=1)) (some (.ret (LV.bool true) b)) (some (.ret (LV.bool (decide (a=2))) b))):=bw
def aiF (a b):bJ E ρ 124 [LV.int .u8 a] b=callK (ρ.call 30 [bv (IntKind.wrap .i64 (IntKind.wrap .u8 ((BitVec.ofInt (IntKind.bits .u8) a ||| BitVec.ofInt (IntKind.bits .u8) (32:Int)).toNat:Int))),bv 97,bv 122] b) (λc d=>opt (bO c) λe=>some (.ret (LV.bool e) d)) pP:=bw
def aiG (a b):bJ E ρ 125 [LV.int .u8 a] b=callK (ρ.call 30 [bv (IntKind.wrap .i64 a),bv 48,bv 57] b) (λc d=>opt (bO c) λe=>some (.ret (LV.bool e) d)) pP:=bw
def Tf (a:List CV)(b:List UInt8)(c d:Int):SegD:=⟨Lt,[],cN 126 52,mS [(0,LV.cv (CV.sl a)),(1,LV.str b),(7,bv c),(8,bv d)] []⟩
def Lx (a:List CV)(b:List UInt8)(c d:Int)(e:Mu):=(Tf a b c d).loop ρ e
def AY (a:Int)(b:Mu):St:= .ret (mS [(4,bv a)] []) b
def AZ (a:Mu):St:= .exit 0 (mS [] []) a
def NG (c d e a b):(Tf c d e a).rK ρ b=cond (decide (a<e)) (opt (cT c a) λf=>opt (cg (LV.cv f)) λg=>cond (decide (d=g)) (some (AY a b)) (Lx ρ c d e (IntKind.wrap .i64 (a+1)) b)) (some (AZ b)):=bw
def Q7 (a b):kB ρ 126 Lt [.block 0,.seq (cN 126 7)] (AY a b)=some (.ret (bv a) b):=bw
def Q8 (a):kB ρ 126 Lt [.block 0,.seq (cN 126 7)] (AZ a)=some (.ret (bv (-1)) a):=bw
def aiH (a b c):bJ E ρ 126 [LV.cv (CV.sl a),LV.str b] c=opt (Lx ρ a b (a.length:Int) 0 c) (kB ρ 126 Lt [.block 0,.seq (cN 126 7)]):=bw
def Sq (a:List UInt8)(b:Bool):SegD:=⟨nV,[(4,0),(5,0),(6,0)],cN 127 15,mS [(7,LV.loc 0 0)] [Ob.cells [LV.str a,LV.bool b,LV.cv (CV.v (.slice none 0 0)),LV.cv (CV.v (.slice none 0 0))]]⟩
def Xi (a:List UInt8)(b:Bool)(c:Mu):=(Sq a b).seg ρ c
def Sr (a b:Int)(c:Lam):SegD:=⟨nV,[(7,0)],cN 127 61,mS [(7,LV.loc 0 0),(9,bv a),(10,bv b)] c true⟩
def La (a b:Int)(c:Lam)(d:Mu):=(Sr a b c).seg ρ d
def Ai (a:List UInt8)(b:Bool)(c d:List CV)(e f:Int)(g:Mu):St:= .ret (mS [(4,LV.cv (CV.view [CV.str a,CV.bool b,CV.sl c,CV.sl d])),(5,bv e),(6,bv f)] [Ob.dead] true) g
def Aj (a:List UInt8)(b:Bool)(c d:List CV)(e:Mu):St:= .norm (mS [(7,LV.loc 0 0)] [Ob.cells [LV.str a,LV.bool b,LV.osl c,LV.osl d]] true) e
def u9 (a:List UInt8)(b:Bool)(c d:List CV)(e f:Int)(g:Mu):St:= .ret (mS [(4,LV.cv (CV.view [CV.str a,CV.bool b,CV.sl c,CV.sl d])),(5,bv e),(6,bv f)] [Ob.dead] true) g
def Ss (a:Lam):SegD:=⟨nV,[(4,0),(5,0),(6,0)],cN 127 31,mS [(7,LV.loc 0 0)] a true⟩
def Lb (a:Lam)(b:Mu):=(Ss a).seg ρ b
def Ak (a:List UInt8)(b:Bool)(c d:List CV)(e f:Int)(g:Mu):St:= .ret (mS [(4,LV.cv (CV.view [CV.str a,CV.bool b,CV.sl c,CV.sl d])),(5,bv e),(6,bv f)] [Ob.dead] true) g
def Mm (a:List UInt8)(b:Bool)(c d:List CV)(e:Lam):SegD:=⟨nV,[(4,0),(5,0),(6,0)],cN 127 63,mS [(7,LV.cv (CV.view [CV.str a,CV.bool b,CV.sl c,CV.sl d]))] e true⟩
def R7 (a:List UInt8)(b:Bool)(c d:List CV)(e:Lam)(f:Mu):=(Mm a b c d e).seg ρ f
def x9 (a:List UInt8)(b:Bool)(c d:List CV)(e f:Int)(g:Ob)(h:Mu):St:= .ret (mS [(4,LV.cv (CV.view [CV.str a,CV.bool b,CV.sl c,CV.sl d])),(5,bv e),(6,bv f)] [g] true) h
def Al (a:List UInt8)(b:Bool)(c d:List CV)(e f:Int)(g:Ob)(h:Mu):St:= .ret (mS [(4,LV.cv (CV.view [CV.str a,CV.bool b,CV.sl c,CV.sl d])),(5,bv e),(6,bv f)] [g] true) h
def Ah (a:List UInt8)(b:Bool)(c d:List CV)(e f:Int)(g:Ob)(h:Mu):St:= .ret (mS [(4,LV.cv (CV.view [CV.str a,CV.bool b,CV.sl c,CV.sl d])),(5,bv e),(6,bv f)] [g] true) h
def XM (a:CV)(b:Lam)(c:Mu):St:= .panic a (mS [] b true) c
def Nq (g a:Int)(b:List UInt8)(c:Bool)(d e:List CV)(f:Mu):(Sr g a [Ob.cells [LV.str b,LV.bool c,LV.osl d,LV.osl e]]).sK ρ f=cond (!decide (a=0)) (some (Ai b c d e g a f)) (some (Aj b c d e f)):=bw
def P8 (a b c d e f g):kS ρ nV [.seq (cN 127 31)] [(4,0),(5,0),(6,0)] (Ai a b c d e f g)=some (u9 a b c d e f g):=bw
def Z6 (b:List UInt8)(c:Bool)(a d:List CV)(e:Ob)(f:Mu):(Mm b c a d [e]).sK ρ f=some (x9 b c a d (a.length:Int) 0 e f):=bw
def N3 (a b c d e f g h):kS ρ nV [] [(4,0),(5,0),(6,0)] (x9 a b c d e f g h)=some (Al a b c d e f g h):=bw
def Nr (b:List UInt8)(c:Bool)(a d:List CV)(e:Mu):(Ss [Ob.cells [LV.str b,LV.bool c,LV.osl a,LV.osl d]]).sK ρ e=cond (decide (300<(a.length:Int))) (some (Ak b c a d 0 8 e)) (opt (R7 ρ b c a d [Ob.dead] e) (kS ρ nV [] [(4,0),(5,0),(6,0)])):=bw
def Qa (a b c d e f g):kS ρ nV [] [(4,0),(5,0),(6,0)] (Ak a b c d e f g)=some (u9 a b c d e f g):=bw
def Qb (a b c d e f g h):kS ρ nV [] [(4,0),(5,0),(6,0)] (Al a b c d e f g h)=some (Ah a b c d e f g h):=bw
def P9 (a b c d e):kS ρ nV [.seq (cN 127 31)] [(4,0),(5,0),(6,0)] (Aj a b c d e)=opt (Lb ρ [Ob.cells [LV.str a,LV.bool b,LV.osl c,LV.osl d]] e) (kS ρ nV [] [(4,0),(5,0),(6,0)]):=bw
def aco (b c a):(Sq b c).sK ρ a=callK (ρ.call 152 [LV.cv (CV.ref (List.length a) 0 0)] (a++[[Ob.cells [LV.str b,LV.bool c,LV.cv (CV.v (.slice none 0 0)),LV.cv (CV.v (.slice none 0 0))]]])) (λh i=>opt (eE i) λd=>opt (ci h) λj=>opt (bG j) λe=>opt (bN .i64 e.1) λk=>opt (bG e.2) λf=>opt (bN .i64 f.1) λl=>opt (bZ f.2) λp=>qR [(0,[0,0,1,1])] d.2 λm=>opt (La ρ k l m d.1) (kS ρ nV [.seq (cN 127 31)] [(4,0),(5,0),(6,0)])) (λn o=>opt (eE o) λg=>some (XM n g.2 g.1)):=bw
def P6 (a b c d e f g):kB ρ 127 nV [] (u9 a b c d e f g)=bD (fj (List.length g) (LV.ltup [LV.cv (CV.view [CV.str a,CV.bool b,CV.sl c,CV.sl d]),bv e,bv f])) (some (.ret (LV.ltup [LV.cv (CV.view [CV.str a,CV.bool b,CV.sl c,CV.sl d]),bv e,bv f]) g)):=bw
def P7 (a b c d e f h g):kB ρ 127 nV [] (Ah a b c d e f h g)=bD (fj (List.length g) (LV.ltup [LV.cv (CV.view [CV.str a,CV.bool b,CV.sl c,CV.sl d]),bv e,bv f])) (some (.ret (LV.ltup [LV.cv (CV.view [CV.str a,CV.bool b,CV.sl c,CV.sl d]),bv e,bv f]) g)):=bw
def aiI (a b c):bJ E ρ 127 [LV.str a,LV.bool b] c=callK (ρ.call 151 [LV.str a] c) (λf d=>opt (bN .i64 f) λe=>cond (!decide (e=0)) (some (.ret (LV.ltup [LV.cv (CV.view [CV.str a,CV.bool b,CV.sl [],CV.sl []]),bv 0,bv e]) d)) (opt (Xi ρ a b d) (kB ρ 127 nV []))) pP:=bw
def Su (a:CV)(b c:Int)(d:List UInt8):SegD:=⟨UH,[(2,0),(3,0)],cN 134 15,mS [(2,LV.loc 0 0),(4,LV.cv a)] [Ob.cells [bv b,bv c,LV.str d]]⟩
def Xj (a:CV)(b c:Int)(d:List UInt8)(e:Mu):=(Su a b c d).seg ρ e
def Am (a:Bool)(b c:Int)(d:List UInt8)(e:Mu):St:= .ret (mS [(2,LV.loc 0 0),(3,LV.bool a)] [Ob.cells [bv b,bv c,LV.str d]]) e
def acp (a g h i b):(Su a g h i).sK ρ b=opt (lZ (LV.cv a)) λj=>bD (!j) (opt (iU (LV.cv (mt a))) λk=>opt (bG k) λc=>opt (cg (LV.cv c.1)) λq=>opt (bG c.2) λd=>opt (bO (LV.cv d.1)) λr=>opt (bG d.2) λe=>opt (cj (LV.cv e.1)) λl=>opt (bG e.2) λf=>opt (cj (LV.cv f.1)) λs=>opt (bZ f.2) λt=>opt (cT l 0) λm=>iy (LV.cv m) λn o p=>some (Am true n o p b)):=bw
def Qc (a b c d e):kB ρ 134 UH [] (Am a b c d e)=some (.ret (LV.ltup [LV.cv (CV.agg [bF b,bF c,CV.str d]),LV.bool a]) e):=bw
def aiJ (b c):bJ E ρ 134 [LV.str b] c=callK (ρ.call 127 [LV.str b,LV.bool false] c) (λg a=>opt (ci g) λh=>opt (bG h) λd=>opt (cW d.1) λi=>opt (bG d.2) λe=>opt (bN .i64 e.1) λj=>opt (bG e.2) λf=>opt (bN .i64 f.1) λk=>opt (bZ f.2) λl=>cond (!decide (k=0)) (some (.ret (LV.ltup [LV.cv (CV.agg [bF 0,bF 0,CV.str []]),LV.bool false]) a)) (cond (!decide (j=1)) (some (.ret (LV.ltup [LV.cv (CV.agg [bF 0,bF 0,CV.str []]),LV.bool false]) a)) (opt (Xj ρ i 0 0 ([]:List UInt8) a) (kB ρ 134 UH [])))) pP:=bw
def aiK (a b):bJ E ρ 135 [LV.int .u8 a] b=cond (decide (97<=a)) (cond (decide (a<=122)) (some (.ret (LV.bool true) b)) (cond (decide (65<=a)) (some (.ret (LV.bool (decide (a<=90))) b)) (some (.ret (LV.bool false) b)))) (cond (decide (65<=a)) (some (.ret (LV.bool (decide (a<=90))) b)) (some (.ret (LV.bool false) b))):=bw
def aiL (a b):bJ E ρ 138 [LV.int .u8 a] b=callK (ρ.call 135 [LV.int .u8 a] b) (λe c=>opt (bO e) λf=>cond (f) (some (.ret (LV.bool true) c)) (callK (ρ.call 160 [LV.int .u8 a] c) (λg d=>opt (bO g) λh=>cond (h) (some (.ret (LV.bool true) d)) (some (.ret (LV.bool (decide (a=95))) d))) pP)) pP:=bw
def E6 (a b:Nat)(c:Int):SegD:=⟨qt,[(4,0)],cN 139 7,mS [(0,LV.cv (CV.ref a b 0)),(1,bv c)] []⟩
def R8 (a b:Nat)(c:Int)(d:Mu):=(E6 a b c).seg ρ d
def E8 (a b:Nat)(c:Int)(d:CV):SegD:=⟨qt,[],cN 139 60,mS [(0,LV.cv (CV.ref a b 0)),(1,bv c),(9,LV.cv d)] []⟩
def CH (a b:Nat)(c:Int)(d:CV)(e:Mu):=(E8 a b c d).loop ρ e
def tf (a:CV)(b:Mu):St:= .ret (mS [(4,LV.cv a)] []) b
def E7 (a b:Nat)(c:Int)(d:CV)(e:Int):SegD:=⟨qt,[(0,0),(1,0),(9,0)],cN 139 483,mS [(0,LV.cv (CV.ref a b 0)),(1,bv c),(9,LV.cv d),(10,bv e)] []⟩
def aev (a b:Nat)(c:Int)(d:CV)(e:Int)(f:Mu):=(E7 a b c d e).seg ρ f
def yb (a b:Nat)(c d e:Int)(f:List UInt8)(g:List CV)(h:Mu):St:= .norm (mS [(0,LV.cv (CV.ref a b 0)),(1,bv c),(9,LV.cv (CV.view [bF d,bF e,CV.str f,CV.sl g]))] []) h
def yc (a:CV)(b:Mu):St:= .panic a (mS [] []) b
def nq (a:CV)(b:Mu):St:= .panic a (mS [] []) b
def ya (a:CV)(b:Mu):St:= .ret (mS [(4,LV.cv a)] []) b
def sZ (a:CV)(b:Mu):St:= .panic a (mS [] []) b
def Z8 (a b e c f d):(E7 a b e c f).sK ρ d=opt (cw E.P 3 (ce d a b) 1) λh=>opt (bN .i64 h) λi=>opt (dv E.P 3 (ce d a b) 1 (bv (IntKind.wrap .i64 (i+1)))) λj=>callK (ρ.call 139 [LV.cv (CV.ref a b 0),bv (IntKind.wrap .i64 (e+1))] (cx d a b j)) (λk l=>opt (cW k) λg=>bD (dJ c) (bD (dJ g) (bD (noB c&&true) (some (yb a b e f 0 ([]:List UInt8) [c,g] l))))) (pX yc):=bw
def N6 (a b c d e f g h):kR ρ qt [.block 2] [] (cN 139 60) (yb a b c d e f g h)=CH ρ a b c (CV.view [bF d,bF e,CV.str f,CV.sl g]) h:=bw
def N7 (a b):kR ρ qt [.block 2] [] (cN 139 60) (yc a b)=some (nq a b):=bw
def aan (a b c d e):(E8 a b c d).rK ρ e=callK (ρ.call 164 [LV.cv (CV.ref a b 0)] e) (λi j=>opt (cg i) λk=>callK (ρ.call 163 [bv c,LV.str k] j) (λl f=>opt (ci l) λm=>opt (bG m) λg=>opt (bN .i64 g.1) λn=>opt (bG g.2) λh=>opt (bO h.1) λo=>opt (bZ h.2) λp=>cond (!o) (some (tf d f)) (opt (aev ρ a b c d n f) (kR ρ qt [.block 2] [] (cN 139 60)))) (pX nq)) (pX nq):=bw
def Ow (a b):kS ρ qt [.block 1] [(4,0)] (tf a b)=some (ya a b):=bw
def Ox (a b):kS ρ qt [.block 1] [(4,0)] (nq a b)=some (sZ a b):=bw
def Z7 (a b c d):(E6 a b c).sK ρ d=callK (ρ.call 165 [LV.cv (CV.ref a b 0),bv c] d) (λe f=>opt (cW e) λg=>opt (CH ρ a b c g f) (kS ρ qt [.block 1] [(4,0)])) (pX sZ):=bw
def N4 (a b):kB ρ 139 qt [] (ya a b)=some (.ret (LV.cv a) b):=bw
def N5 (a b):kB ρ 139 qt [] (sZ a b)=bD (below (List.length b) a) (some (.panic a b)):=bw
def aiM (a b c d):bJ E ρ 139 [LV.cv (CV.ref a b 0),bv c] d=cond (decide (c=10)) (callK (ρ.call 161 [LV.cv (CV.ref a b 0)] d) (λo p=>opt (cW o) λq=>some (.ret (LV.cv q) p)) pP) (cond (decide (c=9)) (callK (ρ.call 161 [LV.cv (CV.ref a b 0)] d) (λr s=>opt (cW r) λe=>callK (ρ.call 162 [LV.cv (CV.ref a b 0),LV.str [42,42]] s) (λt i=>opt (bO t) λu=>cond (u) (callK (ρ.call 139 [LV.cv (CV.ref a b 0),bv 9] i) (λv w=>opt (cW v) λj=>bD (dJ e) (bD (dJ j) (bD (noB e&&true) (some (.ret (LV.cv (CV.view [bF 9,bF 0,CV.str [],CV.sl [e,j]])) w))))) pP) (some (.ret (LV.cv e) i))) pP) pP) (cond (decide (c=4)) (callK (ρ.call 162 [LV.cv (CV.ref a b 0),LV.str [46,78,79,84,46]] d) (λx k=>opt (bO x) λy=>cond (y) (callK (ρ.call 139 [LV.cv (CV.ref a b 0),bv 4] k) (λz A=>opt (cW z) λh=>bD (dJ h) (bD (noB h&&true) (some (.ret (LV.cv (CV.view [bF 8,bF 0,CV.str [],CV.sl [h]])) A)))) pP) (callK (ρ.call 139 [LV.cv (CV.ref a b 0),bv 5] k) (λB C=>opt (cW B) λD=>some (.ret (LV.cv D) C)) pP)) pP) (cond (decide (c=5)) (callK (ρ.call 139 [LV.cv (CV.ref a b 0),bv 6] d) (λF G=>opt (cW F) λf=>callK (ρ.call 164 [LV.cv (CV.ref a b 0)] G) (λH I=>opt (cg H) λJ=>callK (ρ.call 163 [bv c,LV.str J] I) (λK g=>opt (ci K) λL=>opt (bG L) λl=>opt (bN .i64 l.1) λM=>opt (bG l.2) λm=>opt (bO m.1) λN=>opt (bZ m.2) λU=>cond (N) (opt (cw E.P 3 (ce g a b) 1) λO=>opt (bN .i64 O) λQ=>opt (dv E.P 3 (ce g a b) 1 (bv (IntKind.wrap .i64 (Q+1)))) λR=>callK (ρ.call 139 [LV.cv (CV.ref a b 0),bv 6] (cx g a b R)) (λS T=>opt (cW S) λn=>bD (dJ f) (bD (dJ n) (bD (noB f&&true) (some (.ret (LV.cv (CV.view [bF M,bF 0,CV.str [],CV.sl [f,n]])) T))))) pP) (some (.ret (LV.cv f) g))) pP) pP) pP) (opt (R8 ρ a b c d) (kB ρ 139 qt []))))):=bw
def Tg (a:List CV)(b:FuncId)(c d:Int):SegD:=⟨HU,[],cN 140 52,mS [(0,LV.cv (CV.sl a)),(1,LV.cv (CV.clo b [])),(7,bv c),(8,bv d)] []⟩
def uf (a:List CV)(b:FuncId)(c d:Int)(e:Mu):=(Tg a b c d).loop ρ e
def A0 (a:Int)(b:Mu):St:= .ret (mS [(4,bv a)] []) b
def XX (a:CV)(b:Mu):St:= .panic a (mS [] []) b
def A1 (a:Mu):St:= .exit 0 (mS [] []) a
def zh (b c d a e):(Tg b c d a).rK ρ e=cond (decide (a<d)) (opt (cT b a) λf=>bD (dJ f) (callK (ρ.call c [LV.cv f] e) (λh g=>opt (bO h) λi=>cond (i) (some (A0 a g)) (uf ρ b c d (IntKind.wrap .i64 (a+1)) g)) (pX XX))) (some (A1 e)):=bw
def Q9 (a b):kB ρ 140 HU [.block 0,.seq (cN 140 7)] (A0 a b)=some (.ret (bv a) b):=bw
def Ra (a):kB ρ 140 HU [.block 0,.seq (cN 140 7)] (A1 a)=some (.ret (bv (-1)) a):=bw
def aiN (a b c):bJ E ρ 140 [LV.cv (CV.sl a),LV.cv (CV.clo b [])] c=opt (uf ρ a b (a.length:Int) 0 c) (kB ρ 140 HU [.block 0,.seq (cN 140 7)]):=bw
def CT (a b c:Nat)(d:Int)(e:List CV):SegD:=⟨jB,[(4,0),(5,0)],cN 141 120,mS [(0,LV.cv (CV.ref a b 0)),(4,LV.lsl 0 0 c),(5,bv d)] [Ob.arr 1 e]⟩
def wE (a b c:Nat)(d:Int)(e:List CV)(f:Mu):=(CT a b c d e).loop ρ f
def jg (a:List CV)(b:Bool)(c:Mu):St:= .ret (mS [(2,LV.cv (CV.sl a)),(3,LV.bool b)] []) c
def Mn (a b c:Nat)(d:Int)(e:List CV):SegD:=⟨jB,[(0,0),(4,0),(5,0)],cN 141 481,mS [(0,LV.cv (CV.ref a b 0)),(4,LV.lsl 0 0 c),(5,bv d)] [Ob.arr 1 e]⟩
def gD (a b c:Nat)(d:Int)(e:List CV)(f:Mu):=(Mn a b c d e).seg ρ f
def pB (a b c:Nat)(d:Int)(e:List CV)(f:Mu):St:= .exit 0 (mS [(0,LV.cv (CV.ref a b 0)),(4,LV.lsl 0 0 c),(5,bv d)] [Ob.arr 1 e]) f
def yf (a b c:Nat)(d:Int)(e:List CV)(f:Mu):St:= .norm (mS [(0,LV.cv (CV.ref a b 0)),(4,LV.lsl 0 0 c),(5,bv d)] [Ob.arr 1 e]) f
def UZ (a:CV)(b:Mu):St:= .panic a (mS [] []) b
def vv (a:Nat)(b:Int)(c:List CV)(d:Mu):St:= .exit 0 (mS [(4,LV.lsl 0 0 a),(5,bv b)] [Ob.arr 1 c]) d
def lB (a:CV)(b:Mu):St:= .panic a (mS [] []) b
def BP (a b e c f g):(Mn a b e c f).sK ρ g=callK (ρ.call 102 [LV.cv (CV.ref a b 0),LV.str [58]] g) (λh d=>opt (bO h) λi=>cond (!i) (some (pB a b e c f d)) (cond (decide (c=2)) (some (pB a b e c f d)) (opt (cw E.P 3 (ce d a b) 1) λj=>opt (bN .i64 j) λk=>opt (dv E.P 3 (ce d a b) 1 (bv (IntKind.wrap .i64 (k+1)))) λl=>some (yf a b e (IntKind.wrap .i64 (c+1)) f (cx d a b l))))) (pX UZ):=bw
def B0 (e f a b c d):kR ρ jB [.block 1] [(4,0),(5,0)] (cN 141 120) (pB e f a b c d)=some (vv a b c d):=bw
def N8 (a b c d e f):kR ρ jB [.block 1] [(4,0),(5,0)] (cN 141 120) (yf a b c d e f)=wE ρ a b c d e f:=bw
def NH (b c d a e i):(CT b c d a e).rK ρ i=callK (ρ.call 102 [LV.cv (CV.ref b c 0),LV.str [58]] i) (λq f=>opt (bO q) λr=>cond (!r) (callK (ρ.call 102 [LV.cv (CV.ref b c 0),LV.str [44]] f) (λs g=>opt (bO s) λt=>cond (!t) (callK (ρ.call 102 [LV.cv (CV.ref b c 0),LV.str [41]] g) (λu h=>opt (bO u) λv=>cond (!v) (callK (ρ.call 60 [LV.cv (CV.ref b c 0),bv 1] h) (λw j=>opt (ci w) λx=>opt (bG x) λk=>opt (cj k.1) λl=>opt (bG k.2) λm=>opt (bO m.1) λy=>opt (bZ m.2) λF=>cond (!y) (some (jg [] false j)) (bD (fo a d) (bD (fJ 1 (CV.sl l)&&Nat.ble (0+(a).toNat*1+1) (e.length)) (opt (gD ρ b c d a (dG e (0+(a).toNat*1) (CV.cells (CV.sl l))) j) (kR ρ jB [.block 1] [(4,0),(5,0)] (cN 141 120)))))) (pX lB)) (cond (decide (a=2)) (some (jg [] false h)) (cond (decide (a=0)) (callK (ρ.call 102 [LV.cv (CV.ref b c 0),LV.str [58]] h) (λz n=>opt (bO z) λA=>cond (!A) (some (jg [] false n)) (opt (gD ρ b c d a e n) (kR ρ jB [.block 1] [(4,0),(5,0)] (cN 141 120)))) (pX lB)) (opt (gD ρ b c d a e h) (kR ρ jB [.block 1] [(4,0),(5,0)] (cN 141 120)))))) (pX lB)) (cond (decide (a=2)) (some (jg [] false g)) (cond (decide (a=0)) (callK (ρ.call 102 [LV.cv (CV.ref b c 0),LV.str [58]] g) (λB o=>opt (bO B) λC=>cond (!C) (some (jg [] false o)) (opt (gD ρ b c d a e o) (kR ρ jB [.block 1] [(4,0),(5,0)] (cN 141 120)))) (pX lB)) (opt (gD ρ b c d a e g) (kR ρ jB [.block 1] [(4,0),(5,0)] (cN 141 120)))))) (pX lB)) (cond (decide (a=2)) (some (jg [] false f)) (cond (decide (a=0)) (callK (ρ.call 102 [LV.cv (CV.ref b c 0),LV.str [58]] f) (λD p=>opt (bO D) λE=>cond (!E) (some (jg [] false p)) (opt (gD ρ b c d a e p) (kR ρ jB [.block 1] [(4,0),(5,0)] (cN 141 120)))) (pX lB)) (opt (gD ρ b c d a e f) (kR ρ jB [.block 1] [(4,0),(5,0)] (cN 141 120)))))) (pX lB):=bw
def Rb (a b c):kB ρ 141 jB [.block 0,.seq (cN 141 31)] (jg a b c)=some (.ret (LV.ltup [LV.cv (CV.sl a),LV.bool b]) c):=bw
def D2 (b d a c):kB ρ 141 jB [.block 0,.seq (cN 141 31)] (vv b d a c)=cond (decide (d=0)) (bD (fo 0 b) (opt (cw E.P 24 (Ob.arr 1 a) (0+((0:Int)).toNat*1)) λe=>opt (cj e) λf=>some (.ret (LV.ltup [LV.cv (CV.sl f),LV.bool true]) c))) (bD (gg a&&Nat.ble (b*1) (a.length)) (callK (ρ.call 45 [LV.cv (CV.agg [bF 3,bF 0,CV.str [],CV.v (.slice none 0 0)]),LV.cv (CV.sl (lY false 1 b a))] c) (λg h=>opt (cj g) λi=>some (.ret (LV.ltup [LV.cv (CV.sl i),LV.bool true]) h)) pP)):=bw
def aiO (a b c):bJ E ρ 141 [LV.cv (CV.ref a b 0)] c=opt (wE ρ a b 3 0 [CV.v (.slice none 0 0),CV.v (.slice none 0 0),CV.v (.slice none 0 0)] c) (kB ρ 141 jB [.block 0,.seq (cN 141 31)]):=bw
def Th (a:List UInt8)(b c:Int):SegD:=⟨UI,[(5,0)],cN 142 56,mS [(0,LV.str a),(1,bv b),(5,bv c)] []⟩
def Ly (a:List UInt8)(b c:Int)(d:Mu):=(Th a b c).loop ρ d
def vw (a:Int)(b:Mu):St:= .exit 0 (mS [(5,bv a)] []) b
def XY (a:CV)(b:Mu):St:= .panic a (mS [] []) b
def NI (b c a d):(Th b c a).rK ρ d=cond (decide (IntKind.wrap .i64 (c+a)<(b.length:Int))) (opt (dm b (IntKind.wrap .i64 (c+a))) λf=>callK (ρ.call 106 [LV.int .u8 (f.toNat:Int)] d) (λg e=>opt (bO g) λh=>cond (h) (Ly ρ b c (IntKind.wrap .i64 (a+1)) e) (some (vw a e))) (pX XY)) (some (vw a d)):=bw
def Rd (a b):kB ρ 142 UI [.block 0,.seq (cN 142 15)] (vw a b)=some (.ret (bv a) b):=bw
def aiP (a b c):bJ E ρ 142 [LV.str a,bv b] c=opt (Ly ρ a b 0 c) (kB ρ 142 UI [.block 0,.seq (cN 142 15)]):=bw
def Tk (a:List UInt8)(b c:Int):SegD:=⟨UJ,[(3,0)],cN 143 116,mS [(0,LV.str a),(3,bv b),(4,bv c)] []⟩
def Lz (a:List UInt8)(b c:Int)(d:Mu):=(Tk a b c).loop ρ d
def A2 (a:Int)(b:Mu):St:= .exit 0 (mS [(3,bv a)] []) b
def NJ (a c b d):(Tk a c b).rK ρ d=cond (decide (b<(a.length:Int))) (opt (dm a b) λe=>Lz ρ a (IntKind.wrap .i64 (IntKind.wrap .i64 (10*c)+IntKind.wrap .i64 (IntKind.wrap .u8 ((e.toNat:Int) -48)))) (IntKind.wrap .i64 (b+1)) d) (some (A2 c d)):=bw
def Rf (a b):kB ρ 143 UJ [.block 0,.seq (cN 143 15)] (A2 a b)=some (.ret (bv a) b):=bw
def aiQ (a b):bJ E ρ 143 [LV.str a] b=opt (Lz ρ a 0 0 b) (kB ρ 143 UJ [.block 0,.seq (cN 143 15)]):=bw
def Tl (a:List UInt8):SegD:=⟨UK,[(0,0)],cN 144 24,mS [(0,LV.str a)] []⟩
def LA (a:List UInt8)(b:Mu):=(Tl a).loop ρ b
def vx (a:List UInt8)(b:Mu):St:= .exit 0 (mS [(0,LV.str a)] []) b
def Fp (a b):(Tl a).rK ρ b=cond (decide (1<(a.length:Int))) (opt (dm a 0) λc=>cond (decide ((c.toNat:Int)=48)) (opt (gc a 1 (a.length:Int)) λd=>LA ρ d b) (some (vx a b))) (some (vx a b)):=bw
def Rg (a b):kB ρ 144 UK [.block 0,.seq (cN 144 7)] (vx a b)=some (.ret (LV.str a) b):=bw
def aiR (a b):bJ E ρ 144 [LV.str a] b=opt (LA ρ a b) (kB ρ 144 UK [.block 0,.seq (cN 144 7)]):=bw
def aiS (a b):bJ E ρ 145 [LV.str a] b=cond (decide (a=([]:List UInt8))) (some (.ret (LV.str [48]) b)) (some (.ret (LV.str a) b)):=bw
def Tm (a:List UInt8):SegD:=⟨UL,[(0,0)],cN 146 24,mS [(0,LV.str a)] []⟩
def LB (a:List UInt8)(b:Mu):=(Tm a).loop ρ b
def vy (a:List UInt8)(b:Mu):St:= .exit 0 (mS [(0,LV.str a)] []) b
def Fq (a b):(Tm a).rK ρ b=cond (decide (1<(a.length:Int))) (opt (dm a (IntKind.wrap .i64 ((a.length:Int) -1))) λc=>cond (decide ((c.toNat:Int)=48)) (opt (gc a 0 (IntKind.wrap .i64 ((a.length:Int) -1))) λd=>LB ρ d b) (some (vy a b))) (some (vy a b)):=bw
def Ri (a b):kB ρ 146 UL [.block 0,.seq (cN 146 7)] (vy a b)=some (.ret (LV.str a) b):=bw
def aiT (a b):bJ E ρ 146 [LV.str a] b=opt (LB ρ a b) (kB ρ 146 UL [.block 0,.seq (cN 146 7)]):=bw
def aiU (a b):bJ E ρ 147 [LV.str a] b=cond (decide (a=([48]:List UInt8))) (some (.ret (bv 0) b)) (some (.ret (bv (a.length:Int)) b)):=bw
def Sv (a:Int):SegD:=⟨Em,[(0,0)],cN 148 53,mS [(0,bv a)] []⟩
def Xk (a:Int)(b:Mu):=(Sv a).seg ρ b
def An (a:List UInt8)(b:Mu):St:= .ret (mS [(2,LV.str a)] []) b
def Jl (a:CV)(b:Mu):St:= .panic a (mS [] []) b
def Sw (a:Int):SegD:=⟨Em,[(2,0)],cN 148 7,mS [(0,bv a)] []⟩
def Xl (a:Int)(b:Mu):=(Sw a).seg ρ b
def vc (a:List UInt8)(b:Mu):St:= .ret (mS [(2,LV.str a)] []) b
def Jm (a:CV)(b:Mu):St:= .panic a (mS [] []) b
def acq (a b):(Sv a).sK ρ b=callK (ρ.call 148 [bv (IntKind.wrap .i64 (Int.tdiv a 10))] b) (λe f=>opt (cg e) λc=>callK (ρ.call 148 [bv (IntKind.wrap .i64 (0-Int.tmod a 10))] f) (λg h=>opt (cg g) λd=>bD (small (c.length+d.length)) (some (An (c++d) h))) (pX Jl)) (pX Jl):=bw
def Qd (a b):kB ρ 148 Em [.seq (cN 148 7)] (An a b)=some (.ret (LV.str a) b):=bw
def acr (a b):(Sw a).sK ρ b=cond (decide (9<a)) (callK (ρ.call 148 [bv (IntKind.wrap .i64 (Int.tdiv a 10))] b) (λe f=>opt (cg e) λc=>callK (ρ.call 148 [bv (Int.tmod a 10)] f) (λg h=>opt (cg g) λd=>bD (small (c.length+d.length)) (some (vc (c++d) h))) (pX Jm)) (pX Jm)) (opt (gc ([48,49,50,51,52,53,54,55,56,57]:List UInt8) a (IntKind.wrap .i64 (a+1))) λi=>some (vc i b)):=bw
def Qe (a b):kB ρ 148 Em [] (vc a b)=some (.ret (LV.str a) b):=bw
def aea (a b):bJ E ρ 148 [bv a] b=cond (decide (a<0)) (cond (decide ((-10)<a)) (callK (ρ.call 148 [bv (IntKind.wrap .i64 (0-a))] b) (λd e=>opt (cg d) λc=>bD (small (List.length ([45]:List UInt8)+c.length)) (some (.ret (LV.str (([45]:List UInt8)++c)) e))) pP) (opt (Xk ρ a b) (kB ρ 148 Em [.seq (cN 148 7)]))) (opt (Xl ρ a b) (kB ρ 148 Em [])):=bw
def Tn (a b:List UInt8)(c:Int):SegD:=⟨UM,[(3,0)],cN 149 116,mS [(0,LV.str a),(3,LV.str b),(4,bv c)] []⟩
def FR (a b:List UInt8)(c:Int)(d:Mu):=(Tn a b c).loop ρ d
def A3 (a:List UInt8)(b:Mu):St:= .exit 0 (mS [(3,LV.str a)] []) b
def NK (b c a d):(Tn b c a).rK ρ d=cond (decide (a<(b.length:Int))) (opt (gc b a (IntKind.wrap .i64 (a+1))) λe=>bD (small (c.length+e.length)) (opt (dm b a) λf=>cond (decide ((f.toNat:Int)=39)) (bD (small (List.length (c++e)+List.length ([39]:List UInt8))) (FR ρ b ((c++e)++[39]) (IntKind.wrap .i64 (a+1)) d)) (FR ρ b (c++e) (IntKind.wrap .i64 (a+1)) d))) (some (A3 c d)):=bw
def Rj (a b):kB ρ 149 UM [.block 0,.seq (cN 149 15)] (A3 a b)=bD (small (a.length+List.length ([39]:List UInt8))) (some (.ret (LV.str (a++[39])) b)):=bw
def aiV (a b):bJ E ρ 149 [LV.str a] b=opt (FR ρ a ([39]:List UInt8) 0 b) (kB ρ 149 UM [.block 0,.seq (cN 149 15)]):=bw
def aiW (a b):bJ E ρ 151 [LV.str a] b=cond (decide (1320<(a.length:Int))) (some (.ret (bv 8) b)) (callK (ρ.call 167 [LV.str a] b) (λd c=>opt (bO d) λe=>cond (!e) (some (.ret (bv 3) c)) (some (.ret (bv 0) c))) pP):=bw
def To (a b:Nat)(c d:Int):SegD:=⟨sN,[(0,0),(2,0),(3,0),(6,0)],cN 152 28,mS [(0,LV.cv (CV.ref a b 0)),(2,bv c),(3,LV.loc 0 0),(6,LV.lclo 168 [LV.loc 0 0])] [Ob.cells [bv d]]⟩
def LC (a b:Nat)(c d:Int)(e:Mu):=(To a b c d).loop ρ e
def MF (a b:Nat)(c d:Int):SegD:=⟨sN,[(0,0),(2,0),(3,0),(6,0)],cN 152 448,mS [(0,LV.cv (CV.ref a b 0)),(2,bv c),(3,LV.loc 0 0),(6,LV.lclo 168 [LV.loc 0 0])] [Ob.cells [bv d]]⟩
def HX (a b:Nat)(c d:Int)(e:Mu):=(MF a b c d).loop ρ e
def th (a b:Nat)(c d:Int)(e:Mu):St:= .exit 2 (mS [(0,LV.cv (CV.ref a b 0)),(2,bv c),(3,LV.loc 0 0),(6,LV.lclo 168 [LV.loc 0 0])] [Ob.cells [bv d]]) e
def A4 (a b:Int)(c:Mu):St:= .ret (mS [(2,bv a),(3,LV.loc 0 0),(6,LV.lclo 168 [LV.loc 0 0])] [Ob.cells [bv b]]) c
def Sx (a b:Nat)(c d:Int):SegD:=⟨sN,[(0,0),(2,0),(3,0),(6,0)],cN 152 227,mS [(0,LV.cv (CV.ref a b 0)),(2,bv c),(3,LV.loc 0 0),(6,LV.lclo 168 [LV.loc 0 0])] [Ob.cells [bv d]]⟩
def Lc (a b:Nat)(c d:Int)(e:Mu):=(Sx a b c d).seg ρ e
def Ao (a b:Nat)(c d:Int)(e:Mu):St:= .norm (mS [(0,LV.cv (CV.ref a b 0)),(2,bv c),(3,LV.loc 0 0),(6,LV.lclo 168 [LV.loc 0 0])] [Ob.cells [bv d]]) e
def Ap (a:CV)(b c:Int)(d:Mu):St:= .panic a (mS [(2,bv b),(3,LV.loc 0 0),(6,LV.lclo 168 [LV.loc 0 0])] [Ob.cells [bv c]]) d
def A5 (a:CV)(b c:Int)(d:Mu):St:= .panic a (mS [(2,bv b),(3,LV.loc 0 0),(6,LV.lclo 168 [LV.loc 0 0])] [Ob.cells [bv c]]) d
def J1 (a b c e d):(MF a b c e).rK ρ d=opt (cw E.P 9 (ce d a b) 0) λf=>opt (cg f) λg=>cond (decide (c<(g.length:Int))) (opt (cw E.P 9 (ce d a b) 0) λh=>opt (cg h) λi=>opt (dm i c) λj=>cond (decide ((j.toNat:Int)=32)) (HX ρ a b (IntKind.wrap .i64 (c+1)) e d) (some (th a b c e d))) (some (th a b c e d)):=bw
def Ns (a b c d k):(Sx a b c d).sK ρ k=callK (ρ.call 169 [LV.cv (CV.ref a b 0),bv c] k) (λn e=>opt (ci n) λo=>opt (bG o) λl=>iy l.1 λf g h=>opt (bG l.2) λm=>opt (bN .i64 m.1) λp=>opt (bZ m.2) λt=>opt (jl E.P 35 (ce e a b) 2) λi=>opt (iJ i.1) λj=>bD (eq 3 j [CV.agg [bF f,bF g,CV.str h]]) (bD (dp (a+1) (j++[CV.agg [bF f,bF g,CV.str h]])) (opt (dv E.P 35 (ce (cx e a b i.2) a b) 2 (LV.osl (j++[CV.agg [bF f,bF g,CV.str h]]))) λq=>some (Ao a b p d (cx (cx e a b i.2) a b q))))) (λr s=>some (Ap r c d s)):=bw
def Qf (a b c d e):kR ρ sN [.block 1] [(0,0),(2,0),(3,0),(6,0)] (cN 152 28) (Ao a b c d e)=LC ρ a b c d e:=bw
def Qg (a b c d):kR ρ sN [.block 1] [(0,0),(2,0),(3,0),(6,0)] (cN 152 28) (Ap a b c d)=some (A5 a b c d):=bw
def Oy (b c d e a):kR ρ sN [.block 2,.seq (cN 152 113),.block 1] [(0,0),(2,0),(3,0),(6,0)] (cN 152 28) (th b c d e a)=opt (cw E.P 9 (ce a b c) 0) λf=>opt (cg f) λg=>cond (decide ((g.length:Int)<=d)) (some (A4 0 0 a)) (opt (Lc ρ b c d e a) (kR ρ sN [.block 1] [(0,0),(2,0),(3,0),(6,0)] (cN 152 28))):=bw
def acV (a b c d e):(To a b c d).rK ρ e=opt (HX ρ a b c d e) (kR ρ sN [.block 2,.seq (cN 152 113),.block 1] [(0,0),(2,0),(3,0),(6,0)] (cN 152 28)):=bw
def Rk (d e a):nY E.P ρ sN [.block 0] (A4 d e a) (Il E.P ρ 6 (K2 E.P 152))=opt (ρ.dcall 168 none [LV.cv (CV.ref (List.length a) 0 0)] (a++[[Ob.cells [bv e]]])) λf=>opt (eE f) λb=>opt (opt (opt (cw E.P 25 (bU b.2 0) 0) λg=>some [g]) λh=>some (bv d::h)) λc=>bD (nw (eW c)) (bD (fj (List.length b.1) (eW c)) (some (.ret (eW c) b.1))):=bw
def Rl (d e f a):nY E.P ρ sN [.block 0] (A5 d e f a) (Il E.P ρ 6 (K2 E.P 152))=opt (ρ.dcall 168 (some d) [LV.cv (CV.ref (List.length a) 0 0)] (a++[[Ob.cells [bv f]]])) λg=>opt (eE g) λb=>opt (opt (opt (cw E.P 25 (bU b.2 0) 0) λh=>some [h]) λi=>some (bv e::i)) λc=>bD (nw (eW c)) (bD (fj (List.length b.1) (eW c)) (some (.ret (eW c) b.1))):=bw
def aiX (a b c):bJ E ρ 152 [LV.cv (CV.ref a b 0)] c=opt (LC ρ a b 0 0 c) λd=>nY E.P ρ sN [.block 0] d (Il E.P ρ 6 (K2 E.P 152)):=bw
def aiY (a b):bJ E ρ 160 [LV.int .u8 a] b=cond (decide (48<=a)) (some (.ret (LV.bool (decide (a<=57))) b)) (some (.ret (LV.bool false) b)):=bw
def Sy (a b:Nat):SegD:=⟨kl,[(2,0)],cN 161 7,mS [(0,LV.cv (CV.ref a b 0))] []⟩
def Xm (a b:Nat)(c:Mu):=(Sy a b).seg ρ c
def mH (a b:Int)(c:List UInt8)(d:List CV)(e:Mu):St:= .ret (mS [(2,LV.cv (CV.view [bF a,bF b,CV.str c,CV.sl d]))] []) e
def vd (a:CV)(b:Mu):St:= .panic a (mS [] []) b
def Mo (a b:Nat):SegD:=⟨kl,[(2,0)],cN 161 63,mS [(0,LV.cv (CV.ref a b 0))] []⟩
def ww (a b:Nat)(c:Mu):=(Mo a b).seg ρ c
def Mp (a b:Nat)(c d:CV):SegD:=⟨kl,[(0,0),(4,0)],cN 161 4075,mS [(0,LV.cv (CV.ref a b 0)),(4,LV.cv c),(5,LV.cv d)] []⟩
def HN (a b:Nat)(c d:CV)(e:Mu):=(Mp a b c d).seg ρ e
def F1 (a b:Int)(c:List UInt8)(d:List CV)(e:Mu):St:= .ret (mS [(2,LV.cv (CV.view [bF a,bF b,CV.str c,CV.sl d]))] []) e
def s6 (a:CV)(b:Mu):St:= .panic a (mS [] []) b
def s5 (a b:Int)(c:List UInt8)(d:List CV)(e:Mu):St:= .ret (mS [(2,LV.cv (CV.view [bF a,bF b,CV.str c,CV.sl d]))] []) e
def i7 (a:CV)(b:Mu):St:= .panic a (mS [] []) b
def Mq (a b:Nat)(c:CV):SegD:=⟨kl,[(2,0)],cN 161 255,mS [(0,LV.cv (CV.ref a b 0)),(4,LV.cv c)] []⟩
def aew (a b:Nat)(c:CV)(d:Mu):=(Mq a b c).seg ρ d
def F3 (a b:Int)(c:List UInt8)(d:List CV)(e:Mu):St:= .ret (mS [(2,LV.cv (CV.view [bF a,bF b,CV.str c,CV.sl d]))] []) e
def s7 (a:CV)(b:Mu):St:= .panic a (mS [] []) b
def aaa (c d a b e):(Mp c d a b).sK ρ e=callK (ρ.call 185 [LV.cv (CV.ref c d 0),LV.str [41]] e) (λf g=>opt (ci f) λh=>opt (bZ h) λi=>bD (dJ a) (bD (dJ b) (bD (noB a&&true) (some (F1 4 0 ([]:List UInt8) [a,b] g))))) (pX s6):=bw
def Oa (a b c d e):kS ρ kl [.seq (cN 161 255)] [(2,0)] (F1 a b c d e)=some (s5 a b c d e):=bw
def Oc (a b):kS ρ kl [.seq (cN 161 255)] [(2,0)] (s6 a b)=some (i7 a b):=bw
def aab (b c a d):(Mq b c a).sK ρ d=callK (ρ.call 185 [LV.cv (CV.ref b c 0),LV.str [41]] d) (λe f=>opt (ci e) λg=>opt (bZ g) λh=>bD (dJ a) (bD (noB a&&true) (some (F3 5 0 ([]:List UInt8) [a] f)))) (pX s7):=bw
def Od (a b c d e):kS ρ kl [] [(2,0)] (F3 a b c d e)=some (s5 a b c d e):=bw
def Oe (a b):kS ρ kl [] [(2,0)] (s7 a b)=some (i7 a b):=bw
def Z9 (a b e):(Mo a b).sK ρ e=callK (ρ.call 95 [LV.cv (CV.ref a b 0)] e) (λi j=>opt (cW i) λc=>callK (ρ.call 162 [LV.cv (CV.ref a b 0),LV.str [44]] j) (λk f=>opt (bO k) λl=>cond (l) (callK (ρ.call 95 [LV.cv (CV.ref a b 0)] f) (λm n=>opt (cW m) λd=>callK (ρ.call 76 [LV.cv c] n) (λo g=>opt (bO o) λp=>cond (!p) (callK (ρ.call 183 [] g) (λq r=>opt (ci q) λs=>opt (bZ s) λy=>opt (HN ρ a b c d r) (kS ρ kl [.seq (cN 161 255)] [(2,0)])) (pX i7)) (callK (ρ.call 76 [LV.cv d] g) (λt h=>opt (bO t) λu=>cond (!u) (callK (ρ.call 183 [] h) (λv w=>opt (ci v) λx=>opt (bZ x) λz=>opt (HN ρ a b c d w) (kS ρ kl [.seq (cN 161 255)] [(2,0)])) (pX i7)) (opt (HN ρ a b c d h) (kS ρ kl [.seq (cN 161 255)] [(2,0)]))) (pX i7))) (pX i7)) (pX i7)) (opt (aew ρ a b c f) (kS ρ kl [] [(2,0)]))) (pX i7)) (pX i7):=bw
def N9 (a b c d e):kS ρ kl [] [(2,0)] (s5 a b c d e)=some (mH a b c d e):=bw
def acs (a b c):(Sy a b).sK ρ c=opt (cw E.P 35 (ce c a b) 0) λh=>opt (cj h) λi=>opt (cw E.P 3 (ce c a b) 1) λj=>opt (bN .i64 j) λk=>opt (cT i k) λl=>iy (LV.cv l) λf m d=>opt (cw E.P 3 (ce c a b) 1) λn=>opt (bN .i64 n) λo=>opt (dv E.P 3 (ce c a b) 1 (bv (IntKind.wrap .i64 (o+1)))) λe=>cond (decide (f=1)) (some (mH 0 m d [] (cx c a b e))) (cond (decide (f=0)) (callK (ρ.call 162 [LV.cv (CV.ref a b 0),LV.str [40]] (cx c a b e)) (λp g=>opt (bO p) λq=>cond (q) (callK (ρ.call 184 [LV.cv (CV.ref a b 0)] g) (λr s=>opt (cj r) λt=>some (mH 2 0 d t s)) (pX vd)) (cond (decide (f=0)) (some (mH 1 0 d [] g)) (cond (!decide (d=([40]:List UInt8))) (callK (ρ.call 183 [] g) (λu v=>opt (ci u) λw=>opt (bZ w) λA=>opt (ww ρ a b v) (kS ρ kl [] [(2,0)])) (pX vd)) (opt (ww ρ a b g) (kS ρ kl [] [(2,0)]))))) (pX vd)) (cond (decide (f=0)) (some (mH 1 0 d [] (cx c a b e))) (cond (!decide (d=([40]:List UInt8))) (callK (ρ.call 183 [] (cx c a b e)) (λx y=>opt (ci x) λz=>opt (bZ z) λB=>opt (ww ρ a b y) (kS ρ kl [] [(2,0)])) (pX vd)) (opt (ww ρ a b (cx c a b e)) (kS ρ kl [] [(2,0)]))))):=bw
def Qh (a b c d e):kB ρ 161 kl [] (mH a b c d e)=some (.ret (LV.cv (CV.view [bF a,bF b,CV.str c,CV.sl d])) e):=bw
def aiZ (a b c):bJ E ρ 161 [LV.cv (CV.ref a b 0)] c=opt (cw E.P 3 (ce c a b) 1) λd=>opt (bN .i64 d) λe=>opt (cw E.P 35 (ce c a b) 0) λf=>opt (cj f) λg=>cond (decide ((g.length:Int)<=e)) (callK (ρ.call 183 [] c) (λh i=>opt (ci h) λj=>opt (bZ j) λk=>opt (Xm ρ a b i) (kB ρ 161 kl [])) pP) (opt (Xm ρ a b c) (kB ρ 161 kl [])):=bw
def Sz (a b:Nat):SegD:=⟨UN,[(4,0)],cN 162 7,mS [(0,LV.cv (CV.ref a b 0))] []⟩
def Xn (a b:Nat)(c:Mu):=(Sz a b).seg ρ c
def Aq (a:Bool)(b:Mu):St:= .ret (mS [(4,LV.bool a)] []) b
def act (a b c):(Sz a b).sK ρ c=opt (cw E.P 3 (ce c a b) 1) λd=>opt (bN .i64 d) λe=>opt (dv E.P 3 (ce c a b) 1 (bv (IntKind.wrap .i64 (e+1)))) λf=>some (Aq true (cx c a b f)):=bw
def Qi (a b):kB ρ 162 UN [] (Aq a b)=some (.ret (LV.bool a) b):=bw
def ai0 (a b c d):bJ E ρ 162 [LV.cv (CV.ref a b 0),LV.str c] d=callK (ρ.call 164 [LV.cv (CV.ref a b 0)] d) (λf e=>opt (cg f) λg=>cond (!decide (g=c)) (some (.ret (LV.bool false) e)) (opt (Xn ρ a b e) (kB ρ 162 UN []))) pP:=bw
def Tp (a:Int)(b:List UInt8)(c:List CV)(d:Int):SegD:=⟨Lu,[],cN 163 52,mS [(0,bv a),(1,LV.str b),(8,LV.cv (CV.agg c)),(9,bv d)] []⟩
def wF (a:Int)(b:List UInt8)(c:List CV)(d:Int)(e:Mu):=(Tp a b c d).loop ρ e
def A6 (a:Int)(b:Bool)(c:Mu):St:= .ret (mS [(4,bv a),(5,LV.bool b)] []) c
def A7 (a:Mu):St:= .exit 0 (mS [] []) a
def NL (c d e a b):(Tp c d e a).rK ρ b=cond (decide (a<25)) (bD (fo a 25) (opt (nP E.P 113 e (Int.toNat a*5)) λg=>js (LV.cv g) λh j i k f=>cond (decide (i=2)) (cond (!decide (f=([]:List UInt8))) (cond (decide (h=c)) (cond (decide (f=d)) (some (A6 a true b)) (wF ρ c d e (IntKind.wrap .i64 (a+1)) b)) (wF ρ c d e (IntKind.wrap .i64 (a+1)) b)) (wF ρ c d e (IntKind.wrap .i64 (a+1)) b)) (wF ρ c d e (IntKind.wrap .i64 (a+1)) b))) (some (A7 b)):=bw
def Rm (a b c):kB ρ 163 Lu [.block 0,.seq (cN 163 7)] (A6 a b c)=some (.ret (LV.ltup [bv a,LV.bool b]) c):=bw
def Rn (a):kB ρ 163 Lu [.block 0,.seq (cN 163 7)] (A7 a)=some (.ret (LV.ltup [bv 0,LV.bool false]) a):=bw
def ai1 (a b c):bJ E ρ 163 [bv a,LV.str b] c=callK (ρ.call 69 [] c) (λd e=>opt (jZ d) λf=>opt (wF ρ a b f 0 e) (kB ρ 163 Lu [.block 0,.seq (cN 163 7)])) pP:=bw
def ai2 (b c a):bJ E ρ 164 [LV.cv (CV.ref b c 0)] a=opt (cw E.P 3 (ce a b c) 1) λd=>opt (bN .i64 d) λe=>opt (cw E.P 35 (ce a b c) 0) λf=>opt (cj f) λg=>cond (decide (e<(g.length:Int))) (opt (cw E.P 35 (ce a b c) 0) λh=>opt (cj h) λi=>opt (cw E.P 3 (ce a b c) 1) λj=>opt (bN .i64 j) λk=>opt (cT i k) λl=>iy (LV.cv l) λm t u=>cond (decide (m=2)) (opt (cw E.P 35 (ce a b c) 0) λn=>opt (cj n) λo=>opt (cw E.P 3 (ce a b c) 1) λp=>opt (bN .i64 p) λq=>opt (cT o q) λr=>iy (LV.cv r) λv w s=>some (.ret (LV.str s) a)) (some (.ret (LV.str []) a))) (some (.ret (LV.str []) a)):=bw
def Ie (a b:Nat)(c:Int):SegD:=⟨HV,[(0,0),(1,0)],cN 165 53,mS [(0,LV.cv (CV.ref a b 0)),(1,bv c)] []⟩
def Xo (a b:Nat)(c:Int)(d:Mu):=(Ie a b c).seg ρ d
def Ar (a b:Int)(c:List UInt8)(d:List CV)(e:Mu):St:= .ret (mS [(4,LV.cv (CV.view [bF a,bF b,CV.str c,CV.sl d]))] []) e
def ve (a:CV)(b:Mu):St:= .panic a (mS [] []) b
def As (a b:Nat)(c:Int)(d:Mu):St:= .norm (mS [(0,LV.cv (CV.ref a b 0)),(1,bv c)] []) d
def Nt (a b d e):(Ie a b d).sK ρ e=callK (ρ.call 162 [LV.cv (CV.ref a b 0),LV.str [45]] e) (λg f=>opt (bO g) λh=>cond (h) (callK (ρ.call 139 [LV.cv (CV.ref a b 0),bv 8] f) (λi j=>opt (cW i) λc=>bD (dJ c) (bD (noB c&&true) (some (Ar 7 0 ([]:List UInt8) [c] j)))) (pX ve)) (some (As a b d f))) (pX ve):=bw
def Qj (a b c d e):kB ρ 165 HV [.seq (cN 165 7)] (Ar a b c d e)=some (.ret (LV.cv (CV.view [bF a,bF b,CV.str c,CV.sl d])) e):=bw
def Qk (a b):kB ρ 165 HV [.seq (cN 165 7)] (ve a b)=bD (below (List.length b) a) (some (.panic a b)):=bw
def Ql (a b c d):kB ρ 165 HV [.seq (cN 165 7)] (As a b c d)=callK (ρ.call 139 [LV.cv (CV.ref a b 0),bv (IntKind.wrap .i64 (c+1))] d) (λe f=>opt (cW e) λg=>some (.ret (LV.cv g) f)) pP:=bw
def ai3 (a b c d):bJ E ρ 165 [LV.cv (CV.ref a b 0),bv c] d=cond (decide (c=7)) (callK (ρ.call 162 [LV.cv (CV.ref a b 0),LV.str [43]] d) (λg f=>opt (bO g) λh=>cond (h) (callK (ρ.call 139 [LV.cv (CV.ref a b 0),bv 8] f) (λi j=>opt (cW i) λe=>bD (dJ e) (bD (noB e&&true) (some (.ret (LV.cv (CV.view [bF 6,bF 0,CV.str [],CV.sl [e]])) j)))) pP) (opt (Xo ρ a b c f) (kB ρ 165 HV [.seq (cN 165 7)]))) pP) (callK (ρ.call 139 [LV.cv (CV.ref a b 0),bv (IntKind.wrap .i64 (c+1))] d) (λk l=>opt (cW k) λm=>some (.ret (LV.cv m) l)) pP):=bw
def ai4 (a b):bJ E ρ 167 [LV.str a] b=callK (ρ.call 131 [LV.str a,LV.cv (CV.clo 186 [])] b) (λc d=>opt (bO c) λe=>some (.ret (LV.bool (!e)) d)) pP:=bw
def afd (b c a):jN E ρ 168 none [LV.cv (CV.ref b c 0)] a=some a:=bw
def afe (d a b c):jN E ρ 168 (some (CV.iface 191 (CV.agg [bF d]))) [LV.cv (CV.ref a b 0)] c=opt (dv E.P 25 (ce c a b) 0 (bv d)) λe=>some (cx c a b e):=bw
def SA (a b:Nat)(c d e f:Int)(g:List UInt8):SegD:=⟨jC,[(4,0),(5,0)],cN 169 15,mS [(0,LV.cv (CV.ref a b 0)),(1,bv c),(4,LV.loc 0 0),(6,LV.int .u8 d)] [Ob.cells [bv e,bv f,LV.str g]]⟩
def zZ (a b:Nat)(c d e f:Int)(g:List UInt8)(h:Mu):=(SA a b c d e f g).seg ρ h
def fO (a b c:Int)(d:List UInt8)(e:Mu):St:= .ret (mS [(4,LV.loc 0 0),(5,bv a)] [Ob.cells [bv b,bv c,LV.str d]]) e
def dM (a:CV)(b:Mu):St:= .panic a (mS [] []) b
def Mr (a:List UInt8)(b c d:Int)(e:List UInt8):SegD:=⟨jC,[(0,0),(1,0),(4,0)],cN 169 31995,mS [(4,LV.loc 0 0),(14,LV.str a),(15,bv b)] [Ob.cells [bv c,bv d,LV.str e]]⟩
def oL (a:List UInt8)(b c d:Int)(e:List UInt8)(f:Mu):=(Mr a b c d e).seg ρ f
def pC (a b c:Int)(d:List UInt8)(e:Mu):St:= .ret (mS [(4,LV.loc 0 0),(5,bv a)] [Ob.cells [bv b,bv c,LV.str d]]) e
def Ms (a b:Nat)(c d e:Int)(f:List UInt8):SegD:=⟨jC,[(4,0),(5,0)],cN 169 63,mS [(0,LV.cv (CV.ref a b 0)),(1,bv c),(4,LV.loc 0 0)] [Ob.cells [bv d,bv e,LV.str f]]⟩
def wx (a b:Nat)(c d e:Int)(f:List UInt8)(g:Mu):=(Ms a b c d e f).seg ρ g
def yg (a b c:Int)(d:List UInt8)(e:Mu):St:= .ret (mS [(4,LV.loc 0 0),(5,bv a)] [Ob.cells [bv b,bv c,LV.str d]]) e
def yh (a:CV)(b:Mu):St:= .panic a (mS [] []) b
def aac (a b d e f c):(Mr a b d e f).sK ρ c=cond (decide (a=([46,84,82,85,69,46]:List UInt8))) (some (pC b 1 5 a c)) (cond (decide (a=([46,70,65,76,83,69,46]:List UInt8))) (some (pC b 1 5 a c)) (some (pC b 2 0 a c))):=bw
def Of (a b c d e):kS ρ jC [.block 0,.seq (cN 169 63)] [(4,0),(5,0)] (pC a b c d e)=some (fO a b c d e):=bw
def aad (a b c g h i d):(Ms a b c g h i).sK ρ d=callK (ρ.call 195 [LV.cv (CV.ref a b 0),bv c] d) (λj k=>opt (ci j) λl=>opt (bG l) λe=>iy e.1 λm n o=>opt (bG e.2) λf=>opt (bN .i64 f.1) λp=>opt (bZ f.2) λq=>some (yg p m n o k)) (pX yh):=bw
def Og (a b c d e):kS ρ jC [] [(4,0),(5,0)] (yg a b c d e)=some (fO a b c d e):=bw
def Oh (a b):kS ρ jC [] [(4,0),(5,0)] (yh a b)=some (dM a b):=bw
def acu (a b c d e f g k):(SA a b c d e f g).sK ρ k=callK (ρ.call 189 [LV.cv (CV.ref a b 0),bv (IntKind.wrap .i64 (c+1))] k) (λQ R=>opt (ci Q) λS=>opt (bG S) λl=>opt (bN .u8 l.1) λT=>opt (bG l.2) λm=>opt (bN .i64 m.1) λbf=>opt (bZ m.2) λbg=>callK (ρ.call 135 [LV.int .u8 d] R) (λU n=>opt (bO U) λV=>cond (V) (callK (ρ.call 190 [LV.cv (CV.ref a b 0),bv c,LV.cv (CV.clo 138 [])] n) (λW o=>opt (ci W) λX=>opt (bG X) λp=>opt (cg p.1) λj=>opt (bG p.2) λq=>opt (bN .i64 q.1) λr=>opt (bZ q.2) λbh=>cond (decide (31<(j.length:Int))) (callK (ρ.call 191 [bv 4] o) (λY Z=>opt (ci Y) λaa=>opt (bZ aa) λbi=>callK (ρ.call 136 [LV.str j] Z) (λab ac=>opt (cg ab) λad=>some (fO r 0 0 ad ac)) (pX dM)) (pX dM)) (callK (ρ.call 136 [LV.str j] o) (λae af=>opt (cg ae) λag=>some (fO r 0 0 ag af)) (pX dM))) (pX dM)) (callK (ρ.call 160 [LV.int .u8 d] n) (λah h=>opt (bO ah) λai=>cond (ai) (callK (ρ.call 192 [LV.cv (CV.ref a b 0),bv c] h) (λaj ak=>opt (ci aj) λal=>opt (bG al) λs=>iy s.1 λam an ao=>opt (bG s.2) λt=>opt (bN .i64 t.1) λap=>opt (bZ t.2) λbj=>some (fO ap am an ao ak)) (pX dM)) (cond (decide (d=46)) (callK (ρ.call 160 [LV.int .u8 T] h) (λaq i=>opt (bO aq) λar=>cond (ar) (callK (ρ.call 192 [LV.cv (CV.ref a b 0),bv c] i) (λau av=>opt (ci au) λaw=>opt (bG aw) λu=>iy u.1 λax ay az=>opt (bG u.2) λv=>opt (bN .i64 v.1) λaA=>opt (bZ v.2) λbk=>some (fO aA ax ay az av)) (pX dM)) (cond (decide (d=46)) (callK (ρ.call 193 [LV.cv (CV.ref a b 0),bv c] i) (λaB w=>opt (ci aB) λaC=>opt (bG aC) λx=>opt (cg x.1) λy=>opt (bG x.2) λz=>opt (bN .i64 z.1) λA=>opt (bG z.2) λB=>opt (bO B.1) λaD=>opt (bZ B.2) λbl=>cond (!aD) (callK (ρ.call 191 [bv 7] w) (λaE aF=>opt (ci aE) λaG=>opt (bZ aG) λbm=>opt (oL ρ y A e f g aF) (kS ρ jC [.block 0,.seq (cN 169 63)] [(4,0),(5,0)])) (pX dM)) (opt (oL ρ y A e f g w) (kS ρ jC [.block 0,.seq (cN 169 63)] [(4,0),(5,0)]))) (pX dM)) (cond (decide (d=39)) (callK (ρ.call 194 [LV.cv (CV.ref a b 0),bv c] i) (λaH aI=>opt (ci aH) λaJ=>opt (bG aJ) λC=>iy C.1 λaK aL aM=>opt (bG C.2) λD=>opt (bN .i64 D.1) λaN=>opt (bZ D.2) λbn=>some (fO aN aK aL aM aI)) (pX dM)) (cond (decide (d=34)) (callK (ρ.call 194 [LV.cv (CV.ref a b 0),bv c] i) (λaO aP=>opt (ci aO) λaQ=>opt (bG aQ) λE=>iy E.1 λaR aS aT=>opt (bG E.2) λF=>opt (bN .i64 F.1) λaU=>opt (bZ F.2) λbo=>some (fO aU aR aS aT aP)) (pX dM)) (opt (wx ρ a b c e f g i) (kS ρ jC [] [(4,0),(5,0)])))))) (pX dM)) (cond (decide (d=46)) (callK (ρ.call 193 [LV.cv (CV.ref a b 0),bv c] h) (λaV G=>opt (ci aV) λaW=>opt (bG aW) λH=>opt (cg H.1) λI=>opt (bG H.2) λJ=>opt (bN .i64 J.1) λK=>opt (bG J.2) λL=>opt (bO L.1) λaX=>opt (bZ L.2) λbp=>cond (!aX) (callK (ρ.call 191 [bv 7] G) (λaY aZ=>opt (ci aY) λa0=>opt (bZ a0) λbq=>opt (oL ρ I K e f g aZ) (kS ρ jC [.block 0,.seq (cN 169 63)] [(4,0),(5,0)])) (pX dM)) (opt (oL ρ I K e f g G) (kS ρ jC [.block 0,.seq (cN 169 63)] [(4,0),(5,0)]))) (pX dM)) (cond (decide (d=39)) (callK (ρ.call 194 [LV.cv (CV.ref a b 0),bv c] h) (λa1 a2=>opt (ci a1) λa3=>opt (bG a3) λM=>iy M.1 λa4 a5 a6=>opt (bG M.2) λN=>opt (bN .i64 N.1) λa7=>opt (bZ N.2) λbr=>some (fO a7 a4 a5 a6 a2)) (pX dM)) (cond (decide (d=34)) (callK (ρ.call 194 [LV.cv (CV.ref a b 0),bv c] h) (λa8 a9=>opt (ci a8) λba=>opt (bG ba) λO=>iy O.1 λbb bc bd=>opt (bG O.2) λP=>opt (bN .i64 P.1) λbe=>opt (bZ P.2) λbs=>some (fO be bb bc bd a9)) (pX dM)) (opt (wx ρ a b c e f g h) (kS ρ jC [] [(4,0),(5,0)]))))))) (pX dM))) (pX dM)) (pX dM):=bw
def Qm (a b c d e):kB ρ 169 jC [] (fO a b c d e)=some (.ret (LV.ltup [LV.cv (CV.agg [bF b,bF c,CV.str d]),bv a]) e):=bw
def Qn (a b):kB ρ 169 jC [] (dM a b)=bD (below (List.length b) a) (some (.panic a b)):=bw
def ai5 (a b c e):bJ E ρ 169 [LV.cv (CV.ref a b 0),bv c] e=opt (cw E.P 9 (ce e a b) 0) λl=>opt (cg l) λm=>opt (dm m c) λd=>callK (ρ.call 187 [LV.cv (CV.ref a b 0)] e) (λn f=>opt (bO n) λo=>cond (o) (callK (ρ.call 160 [LV.int .u8 (d.toNat:Int)] f) (λp g=>opt (bO p) λq=>cond (q) (callK (ρ.call 188 [LV.cv (CV.ref a b 0),bv c] g) (λr h=>opt (ci r) λs=>opt (bG s) λi=>iy i.1 λt u v=>opt (bG i.2) λj=>opt (bN .i64 j.1) λw=>opt (bG j.2) λk=>opt (bO k.1) λx=>opt (bZ k.2) λy=>cond (x) (some (.ret (LV.ltup [LV.cv (CV.agg [bF t,bF u,CV.str v]),bv w]) h)) (opt (zZ ρ a b c (d.toNat:Int) 0 0 ([]:List UInt8) h) (kB ρ 169 jC []))) pP) (opt (zZ ρ a b c (d.toNat:Int) 0 0 ([]:List UInt8) g) (kB ρ 169 jC []))) pP) (opt (zZ ρ a b c (d.toNat:Int) 0 0 ([]:List UInt8) f) (kB ρ 169 jC []))) pP:=bw
def ai6 (a):bJ E ρ 183 [] a=some (.panic (CV.iface 137 (CV.agg [bF 7])) a):=bw
def Tq (a b:Nat)(c:List CV):SegD:=⟨En,[(0,0),(3,1)],cN 184 56,mS [(0,LV.cv (CV.ref a b 0)),(3,LV.osl c)] []⟩
def FS (a b:Nat)(c:List CV)(d:Mu):=(Tq a b c).loop ρ d
def Jr (a b:Nat)(c:List CV)(d:Mu):St:= .exit 0 (mS [(0,LV.cv (CV.ref a b 0)),(3,LV.osl c)] []) d
def A8 (a:CV)(b:Mu):St:= .panic a (mS [] []) b
def acW (b c d e):(Tq b c d).rK ρ e=callK (ρ.call 204 [LV.cv (CV.ref b c 0)] e) (λg h=>opt (cW g) λa=>bD (dJ a) (bD (noB a&&true) (bD (jw [a]&&eq 1 d [a]) (callK (ρ.call 162 [LV.cv (CV.ref b c 0),LV.str [44]] h) (λi f=>opt (bO i) λj=>cond (!j) (some (Jr b c (d++[a]) f)) (FS ρ b c (d++[a]) f)) (pX A8))))) (pX A8):=bw
def Ro (a b c d):kB ρ 184 En [.block 0,.seq (cN 184 15)] (Jr a b c d)=callK (ρ.call 185 [LV.cv (CV.ref a b 0),LV.str [41]] d) (λe f=>opt (ci e) λg=>opt (bZ g) λh=>some (.ret (LV.osl c) f)) pP:=bw
def ai7 (a b c):bJ E ρ 184 [LV.cv (CV.ref a b 0)] c=opt (FS ρ a b [] c) (kB ρ 184 En [.block 0,.seq (cN 184 15)]):=bw
def ai8 (a b c d):bJ E ρ 185 [LV.cv (CV.ref a b 0),LV.str c] d=callK (ρ.call 162 [LV.cv (CV.ref a b 0),LV.str c] d) (λf e=>opt (bO f) λg=>cond (!g) (callK (ρ.call 183 [] e) (λh i=>opt (ci h) λj=>opt (bZ j) λk=>some (.ret (LV.ltup []) i)) pP) (some (.ret (LV.ltup []) e))) pP:=bw
def SB (a b:Nat):SegD:=⟨Eo,[(2,0)],cN 187 7,mS [(0,LV.cv (CV.ref a b 0))] []⟩
def Xp (a b:Nat)(c:Mu):=(SB a b).seg ρ c
def vf (a:Bool)(b:Mu):St:= .ret (mS [(2,LV.bool a)] []) b
def SC (a b:Nat):SegD:=⟨Eo,[(2,0)],cN 187 15,mS [(0,LV.cv (CV.ref a b 0))] []⟩
def Xq (a b:Nat)(c:Mu):=(SC a b).seg ρ c
def vg (a:Bool)(b:Mu):St:= .ret (mS [(2,LV.bool a)] []) b
def XN (a:CV)(b:Mu):St:= .panic a (mS [] []) b
def acw (b c a):(SC b c).sK ρ a=opt (cw E.P 35 (ce a b c) 2) λd=>opt (cj d) λe=>opt (cw E.P 35 (ce a b c) 2) λf=>opt (cj f) λg=>opt (cT e (IntKind.wrap .i64 ((g.length:Int) -1))) λh=>iy (LV.cv h) λi n j=>cond (decide (i=2)) (callK (ρ.call 82 [LV.osl [CV.str [40],CV.str [44],CV.str [47],CV.str [61]],LV.str j] a) (λk l=>opt (bO k) λm=>some (vg m l)) (pX XN)) (some (vg false a)):=bw
def Qp (a b):kS ρ Eo [] [(2,0)] (vg a b)=some (vf a b):=bw
def acv (b c a):(SB b c).sK ρ a=opt (cw E.P 35 (ce a b c) 2) λd=>opt (cj d) λe=>cond (decide ((e.length:Int)=0)) (some (vf true a)) (opt (Xq ρ b c a) (kS ρ Eo [] [(2,0)])):=bw
def Qo (a b):kB ρ 187 Eo [] (vf a b)=some (.ret (LV.bool a) b):=bw
def ai9 (b c a):bJ E ρ 187 [LV.cv (CV.ref b c 0)] a=opt (cw E.P 4 (ce a b c) 1) λd=>opt (bO d) λe=>cond (!e) (some (.ret (LV.bool false) a)) (opt (Xp ρ b c a) (kB ρ 187 Eo [])):=bw
def SD (a b:Nat)(c d e f:Int)(g:List UInt8):SegD:=⟨ue,[(4,0),(5,0),(6,0)],cN 188 63,mS [(0,LV.cv (CV.ref a b 0)),(4,LV.loc 0 0),(10,bv c),(11,bv d)] [Ob.cells [bv e,bv f,LV.str g]]⟩
def FH (a b:Nat)(c d e f:Int)(g:List UInt8)(h:Mu):=(SD a b c d e f g).seg ρ h
def SE (a b:Nat)(c d e f:Int)(g:List UInt8):SegD:=⟨ue,[(4,0),(5,0),(6,0)],cN 188 127,mS [(0,LV.cv (CV.ref a b 0)),(4,LV.loc 0 0),(10,bv c),(11,bv d)] [Ob.cells [bv e,bv f,LV.str g]]⟩
def Ld (a b:Nat)(c d e f:Int)(g:List UInt8)(h:Mu):=(SE a b c d e f g).seg ρ h
def Av (a:Int)(b:Bool)(c d:Int)(e:List UInt8)(f:Mu):St:= .ret (mS [(4,LV.loc 0 0),(5,bv a),(6,LV.bool b)] [Ob.cells [bv c,bv d,LV.str e]]) f
def Jn (a:CV)(b:Mu):St:= .panic a (mS [] []) b
def At (a:Int)(b:Bool)(c d:Int)(e:List UInt8)(f:Mu):St:= .ret (mS [(4,LV.loc 0 0),(5,bv a),(6,LV.bool b)] [Ob.cells [bv c,bv d,LV.str e]]) f
def Au (a:CV)(b:Mu):St:= .panic a (mS [] []) b
def acy (c d a b g h i e):(SE c d a b g h i).sK ρ e=callK (ρ.call 205 [LV.cv (CV.ref c d 0),bv a,bv (IntKind.wrap .i64 (a+b))] e) (λj f=>opt (ci j) λk=>opt (bZ k) λt=>opt (cw E.P 9 (ce f c d) 0) λl=>opt (cg l) λm=>opt (gc m a (IntKind.wrap .i64 (a+b))) λn=>callK (ρ.call 206 [LV.str n] f) (λo p=>iy o λq r s=>some (Av (IntKind.wrap .i64 (a+b)) true q r s p)) (pX Jn)) (pX Jn):=bw
def Qs (a b c d e f):kS ρ ue [] [(4,0),(5,0),(6,0)] (Av a b c d e f)=some (At a b c d e f):=bw
def acx (a b c d f g h e):(SD a b c d f g h).sK ρ e=opt (cw E.P 9 (ce e a b) 0) λi=>opt (cg i) λj=>cond (decide ((j.length:Int)<IntKind.wrap .i64 (c+d))) (callK (ρ.call 191 [bv 7] e) (λk l=>opt (ci k) λm=>opt (bZ m) λn=>opt (Ld ρ a b c d f g h l) (kS ρ ue [] [(4,0),(5,0),(6,0)])) (pX Au)) (opt (Ld ρ a b c d f g h e) (kS ρ ue [] [(4,0),(5,0),(6,0)])):=bw
def Qq (a b c d e f):kB ρ 188 ue [] (At a b c d e f)=some (.ret (LV.ltup [LV.cv (CV.agg [bF c,bF d,CV.str e]),bv a,LV.bool b]) f):=bw
def Qr (a b):kB ρ 188 ue [] (Au a b)=bD (below (List.length b) a) (some (.panic a b)):=bw
def aja (c d a f):bJ E ρ 188 [LV.cv (CV.ref c d 0),bv a] f=callK (ρ.call 190 [LV.cv (CV.ref c d 0),bv a,LV.cv (CV.clo 160 [])] f) (λp q=>opt (ci p) λr=>opt (bG r) λg=>opt (cg g.1) λh=>opt (bG g.2) λi=>opt (bN .i64 i.1) λs=>opt (bZ i.2) λy=>callK (ρ.call 189 [LV.cv (CV.ref c d 0),bv s] q) (λt u=>opt (ci t) λv=>opt (bG v) λj=>opt (bN .u8 j.1) λk=>opt (bG j.2) λl=>opt (bN .i64 l.1) λm=>opt (bZ l.2) λz=>callK (ρ.call 133 [LV.str h] u) (λw b=>opt (ci w) λx=>opt (bG x) λn=>opt (bN .i64 n.1) λe=>opt (bG n.2) λo=>opt (cW o.1) λA=>opt (bZ o.2) λB=>cond (decide (2<(h.length:Int))) (some (.ret (LV.ltup [LV.cv (CV.agg [bF 0,bF 0,CV.str []]),bv a,LV.bool false]) b)) (cond (decide (e<1)) (some (.ret (LV.ltup [LV.cv (CV.agg [bF 0,bF 0,CV.str []]),bv a,LV.bool false]) b)) (cond (decide (60<e)) (some (.ret (LV.ltup [LV.cv (CV.agg [bF 0,bF 0,CV.str []]),bv a,LV.bool false]) b)) (cond (!decide (k=72)) (cond (!decide (k=104)) (some (.ret (LV.ltup [LV.cv (CV.agg [bF 0,bF 0,CV.str []]),bv a,LV.bool false]) b)) (opt (FH ρ c d m e 0 0 ([]:List UInt8) b) (kB ρ 188 ue []))) (opt (FH ρ c d m e 0 0 ([]:List UInt8) b) (kB ρ 188 ue [])))))) pP) pP) pP:=bw
def SF (a b:Nat)(c:Int):SegD:=⟨UO,[(4,0),(5,0)],cN 189 15,mS [(0,LV.cv (CV.ref a b 0)),(1,bv c)] []⟩
def Xr (a b:Nat)(c:Int)(d:Mu):=(SF a b c).seg ρ d
def Aw (a b:Int)(c:Mu):St:= .ret (mS [(4,LV.int .u8 a),(5,bv b)] []) c
def acz (c d a b):(SF c d a).sK ρ b=opt (cw E.P 9 (ce b c d) 0) λe=>opt (cg e) λf=>opt (dm f a) λg=>some (Aw (g.toNat:Int) (IntKind.wrap .i64 (a+1)) b):=bw
def Qt (a b c):kB ρ 189 UO [] (Aw a b c)=some (.ret (LV.ltup [LV.int .u8 a,bv b]) c):=bw
def ajb (a b e f):bJ E ρ 189 [LV.cv (CV.ref a b 0),bv e] f=callK (ρ.call 207 [LV.cv (CV.ref a b 0),bv e] f) (λg c=>opt (bN .i64 g) λd=>opt (cw E.P 9 (ce c a b) 0) λh=>opt (cg h) λi=>cond (decide ((i.length:Int)<=d)) (some (.ret (LV.ltup [LV.int .u8 0,bv d]) c)) (opt (Xr ρ a b d c) (kB ρ 189 UO []))) pP:=bw
def Tr (a b:Nat)(c:Int)(d:FuncId)(e:List CV):SegD:=⟨Ep,[],cN 190 28,mS [(0,LV.cv (CV.ref a b 0)),(1,bv c),(2,LV.cv (CV.clo d [])),(8,LV.osl e)] []⟩
def LD (a b:Nat)(c:Int)(d:FuncId)(e:List CV)(f:Mu):=(Tr a b c d e).loop ρ f
def vz (a:List UInt8)(b:Int)(c:Mu):St:= .ret (mS [(6,LV.str a),(7,bv b)] []) c
def SM (a b:Nat)(c:FuncId)(d:List CV)(e f:Int):SegD:=⟨Ep,[(0,0),(1,0),(2,0),(8,1)],cN 190 227,mS [(0,LV.cv (CV.ref a b 0)),(2,LV.cv (CV.clo c [])),(8,LV.osl d),(9,LV.int .u8 e),(10,bv f)] []⟩
def Xt (a b:Nat)(c:FuncId)(d:List CV)(e f:Int)(g:Mu):=(SM a b c d e f).seg ρ g
def AB (a b:Nat)(c:Int)(d:FuncId)(e:List CV)(f:Mu):St:= .norm (mS [(0,LV.cv (CV.ref a b 0)),(1,bv c),(2,LV.cv (CV.clo d [])),(8,LV.osl e)] []) f
def Js (a:CV)(b:Mu):St:= .panic a (mS [] []) b
def acB (c d e a b f g):(SM c d e a b f).sK ρ g=bD (eq 1 a [CV.int .u8 b]) (some (AB c d f e (a++[CV.int .u8 b]) g)):=bw
def Qy (a b c d e f):kR ρ Ep [.block 1] [] (cN 190 28) (AB a b c d e f)=LD ρ a b c d e f:=bw
def NM (c d a e b g):(Tr c d a e b).rK ρ g=callK (ρ.call 189 [LV.cv (CV.ref c d 0),bv a] g) (λl h=>opt (ci l) λm=>opt (bG m) λi=>opt (bN .u8 i.1) λf=>opt (bG i.2) λj=>opt (bN .i64 j.1) λn=>opt (bZ j.2) λs=>cond (decide (f=0)) (opt (dg b) λo=>some (vz o a h)) (callK (ρ.call e [LV.int .u8 f] h) (λp k=>opt (bO p) λq=>cond (!q) (opt (dg b) λr=>some (vz r a k)) (opt (Xt ρ c d e b f n k) (kR ρ Ep [.block 1] [] (cN 190 28)))) (pX Js))) (pX Js):=bw
def Rp (a b c):kB ρ 190 Ep [.block 0] (vz a b c)=some (.ret (LV.ltup [LV.str a,bv b]) c):=bw
def ajc (a b c d e):bJ E ρ 190 [LV.cv (CV.ref a b 0),bv c,LV.cv (CV.clo d [])] e=opt (LD ρ a b c d [] e) (kB ρ 190 Ep [.block 0]):=bw
def ajd (a b):bJ E ρ 191 [bv a] b=some (.panic (CV.iface 191 (CV.agg [bF a])) b):=bw
def SN (a b:Nat)(c:Int)(d e:List UInt8)(f:Bool)(g h:Int)(i:List UInt8):SegD:=⟨f9,[(4,0),(5,0)],cN 192 31,mS [(0,LV.cv (CV.ref a b 0)),(1,bv c),(4,LV.loc 0 0),(6,LV.str d),(7,LV.str e),(8,LV.bool f)] [Ob.cells [bv g,bv h,LV.str i]]⟩
def wA (a b:Nat)(c:Int)(d e:List UInt8)(f:Bool)(g h:Int)(i:List UInt8)(j:Mu):=(SN a b c d e f g h i).seg ρ j
def oO (a b c:Int)(d:List UInt8)(e:Mu):St:= .ret (mS [(4,LV.loc 0 0),(5,bv a)] [Ob.cells [bv b,bv c,LV.str d]]) e
def mI (a:CV)(b:Mu):St:= .panic a (mS [] []) b
def Mt (a:Int)(b c:List UInt8)(d:Int)(e:List UInt8)(f:Int)(g:Bool)(h i:Int)(j:List UInt8):SegD:=⟨f9,[(4,0),(5,0)],cN 192 127,mS [(1,bv a),(4,LV.loc 0 0),(6,LV.str b),(7,LV.str c),(14,LV.int .u8 d),(15,LV.str e),(16,bv f),(17,LV.bool g)] [Ob.cells [bv h,bv i,LV.str j]]⟩
def HO (a:Int)(b c:List UInt8)(d:Int)(e:List UInt8)(f:Int)(g:Bool)(h i:Int)(j:List UInt8)(k:Mu):=(Mt a b c d e f g h i j).seg ρ k
def Mv (a:Int)(b c:List UInt8)(d:Int)(e:List UInt8)(f:Bool)(g h:Int)(i:List UInt8):SegD:=⟨f9,[(4,0),(5,0)],cN 192 255,mS [(1,bv a),(4,LV.loc 0 0),(6,LV.str b),(7,LV.str c),(14,LV.int .u8 d),(15,LV.str e),(17,LV.bool f)] [Ob.cells [bv g,bv h,LV.str i]]⟩
def HP (a:Int)(b c:List UInt8)(d:Int)(e:List UInt8)(f:Bool)(g h:Int)(i:List UInt8)(j:Mu):=(Mv a b c d e f g h i).seg ρ j
def Mw (a:Int)(b c:List UInt8)(d:Int)(e:List UInt8)(f:Bool)(g h:Int)(i:List UInt8):SegD:=⟨f9,[(4,0),(5,0)],cN 192 511,mS [(1,bv a),(4,LV.loc 0 0),(6,LV.str b),(7,LV.str c),(14,LV.int .u8 d),(15,LV.str e),(17,LV.bool f)] [Ob.cells [bv g,bv h,LV.str i]]⟩
def wz (a:Int)(b c:List UInt8)(d:Int)(e:List UInt8)(f:Bool)(g h:Int)(i:List UInt8)(j:Mu):=(Mw a b c d e f g h i).seg ρ j
def Mx (a b:Int)(c:Bool)(d e:List UInt8)(f g:Int)(h:List UInt8):SegD:=⟨f9,[(4,0),(5,0)],cN 192 4095,mS [(1,bv a),(4,LV.loc 0 0),(14,LV.int .u8 b),(17,LV.bool c),(18,LV.str d),(19,LV.str e)] [Ob.cells [bv f,bv g,LV.str h]]⟩
def HQ (a b:Int)(c:Bool)(d e:List UInt8)(f g:Int)(h:List UInt8)(i:Mu):=(Mx a b c d e f g h).seg ρ i
def tc (a b c:Int)(d:List UInt8)(e:Mu):St:= .ret (mS [(4,LV.loc 0 0),(5,bv a)] [Ob.cells [bv b,bv c,LV.str d]]) e
def My (a:Int)(b c:List UInt8)(d e:Int)(f:List UInt8):SegD:=⟨f9,[(4,0),(5,0)],cN 192 8191,mS [(1,bv a),(4,LV.loc 0 0),(18,LV.str b),(19,LV.str c)] [Ob.cells [bv d,bv e,LV.str f]]⟩
def HR (a:Int)(b c:List UInt8)(d e:Int)(f:List UInt8)(g:Mu):=(My a b c d e f).seg ρ g
def td (a b c:Int)(d:List UInt8)(e:Mu):St:= .ret (mS [(4,LV.loc 0 0),(5,bv a)] [Ob.cells [bv b,bv c,LV.str d]]) e
def yj (a b c:Int)(d:List UInt8)(e:Mu):St:= .ret (mS [(4,LV.loc 0 0),(5,bv a)] [Ob.cells [bv b,bv c,LV.str d]]) e
def ta (a:CV)(b:Mu):St:= .panic a (mS [] []) b
def yi (a b c:Int)(d:List UInt8)(e:Mu):St:= .ret (mS [(4,LV.loc 0 0),(5,bv a)] [Ob.cells [bv b,bv c,LV.str d]]) e
def nk (a:CV)(b:Mu):St:= .panic a (mS [] []) b
def s8 (a b c:Int)(d:List UInt8)(e:Mu):St:= .ret (mS [(4,LV.loc 0 0),(5,bv a)] [Ob.cells [bv b,bv c,LV.str d]]) e
def s9 (a:CV)(b:Mu):St:= .panic a (mS [] []) b
def aai (c b a e f g d):(My c b a e f g).sK ρ d=cond (!decide (a=([48]:List UInt8))) (bD (small (List.length ([69]:List UInt8)+a.length)) (bD (small (b.length+List.length (([69]:List UInt8)++a))) (some (td c 1 1 (b++(([69]:List UInt8)++a)) d)))) (some (td c 1 1 b d)):=bw
def Ol (a b c d e):kS ρ f9 [] [(4,0),(5,0)] (td a b c d e)=some (tc a b c d e):=bw
def aah (c h i a b e f g d):(Mx c h i a b e f g).sK ρ d=cond (decide (h=68)) (cond (i) (bD (small (a.length+List.length ([68]:List UInt8))) (bD (small (List.length (a++[68])+b.length)) (some (tc c 1 2 ((a++[68])++b) d)))) (opt (HR ρ c a b e f g d) (kS ρ f9 [] [(4,0),(5,0)]))) (opt (HR ρ c a b e f g d) (kS ρ f9 [] [(4,0),(5,0)])):=bw
def B3 (a b c d e):kS ρ f9 [] [(4,0),(5,0)] (tc a b c d e)=some (yj a b c d e):=bw
def aag (c i j d k a e f g l):(Mw c i j d k a e f g).sK ρ l=callK (ρ.call 212 [LV.str i,LV.bool true] l) (λp q=>opt (cg p) λb=>bD (small (b.length+List.length ([46]:List UInt8))) (callK (ρ.call 212 [LV.str j,LV.bool false] q) (λr m=>opt (cg r) λh=>bD (small (List.length (b++[46])+h.length)) (cond (a) (callK (ρ.call 133 [LV.str k] m) (λs t=>opt (ci s) λu=>opt (bG u) λn=>opt (bN .i64 n.1) λv=>opt (bG n.2) λo=>opt (cW o.1) λz=>opt (bZ o.2) λA=>callK (ρ.call 199 [bv v] t) (λw x=>opt (cg w) λy=>opt (HQ ρ c d a ((b++[46])++h) y e f g x) (kS ρ f9 [] [(4,0),(5,0)])) (pX ta)) (pX ta)) (opt (HQ ρ c d a ((b++[46])++h) ([48]:List UInt8) e f g m) (kS ρ f9 [] [(4,0),(5,0)])))) (pX ta))) (pX ta):=bw
def Ok (a b c d e):kS ρ f9 [] [(4,0),(5,0)] (yj a b c d e)=some (yi a b c d e):=bw
def aaf (e a b f c d g h i k):(Mv e a b f c d g h i).sK ρ k=callK (ρ.call 210 [LV.str a,LV.str b] k) (λm l=>opt (bN .i64 m) λn=>cond (decide (30<n)) (callK (ρ.call 191 [bv 7] l) (λo p=>opt (ci o) λq=>opt (bZ q) λw=>opt (wz ρ e a b f c d g h i p) (kS ρ f9 [] [(4,0),(5,0)])) (pX nk)) (callK (ρ.call 211 [LV.str c,LV.str [45]] l) (λr j=>opt (cg r) λs=>cond (decide (3<(s.length:Int))) (cond (d) (callK (ρ.call 191 [bv 7] j) (λt u=>opt (ci t) λv=>opt (bZ v) λx=>opt (wz ρ e a b f c d g h i u) (kS ρ f9 [] [(4,0),(5,0)])) (pX nk)) (opt (wz ρ e a b f c d g h i j) (kS ρ f9 [] [(4,0),(5,0)]))) (opt (wz ρ e a b f c d g h i j) (kS ρ f9 [] [(4,0),(5,0)]))) (pX nk))) (pX nk):=bw
def B1 (a b c d e):kS ρ f9 [] [(4,0),(5,0)] (yi a b c d e)=some (s8 a b c d e):=bw
def B2 (a b):kS ρ f9 [] [(4,0),(5,0)] (nk a b)=some (s9 a b):=bw
def aae (j b c d e k a f g h i):(Mt j b c d e k a f g h).sK ρ i=cond (a) (opt (HP ρ k b c d e a f g h i) (kS ρ f9 [] [(4,0),(5,0)])) (opt (HP ρ j b c d e a f g h i) (kS ρ f9 [] [(4,0),(5,0)])):=bw
def Oi (a b c d e):kS ρ f9 [] [(4,0),(5,0)] (s8 a b c d e)=some (oO a b c d e):=bw
def Oj (a b):kS ρ f9 [] [(4,0),(5,0)] (s9 a b)=some (mI a b):=bw
def acC (i j a b c k d e f l):(SN i j a b c k d e f).sK ρ l=callK (ρ.call 208 [LV.cv (CV.ref i j 0),bv a] l) (λt g=>opt (ci t) λu=>opt (bG u) λm=>opt (bN .u8 m.1) λn=>opt (bG m.2) λo=>opt (cg o.1) λp=>opt (bG o.2) λq=>opt (bN .i64 q.1) λr=>opt (bG q.2) λs=>opt (bO s.1) λh=>opt (bZ s.2) λA=>cond (!k) (cond (!h) (callK (ρ.call 209 [LV.str b] g) (λv w=>iy v λx y z=>some (oO a x y z w)) (pX mI)) (opt (HO ρ a b c n p r h d e f g) (kS ρ f9 [] [(4,0),(5,0)]))) (opt (HO ρ a b c n p r h d e f g) (kS ρ f9 [] [(4,0),(5,0)]))) (pX mI):=bw
def Qz (a b c d e):kB ρ 192 f9 [] (oO a b c d e)=some (.ret (LV.ltup [LV.cv (CV.agg [bF b,bF c,CV.str d]),bv a]) e):=bw
def QA (a b):kB ρ 192 f9 [] (mI a b)=bD (below (List.length b) a) (some (.panic a b)):=bw
def aje (a b f g):bJ E ρ 192 [LV.cv (CV.ref a b 0),bv f] g=callK (ρ.call 190 [LV.cv (CV.ref a b 0),bv f,LV.cv (CV.clo 160 [])] g) (λu v=>opt (ci u) λw=>opt (bG w) λh=>opt (cg h.1) λc=>opt (bG h.2) λi=>opt (bN .i64 i.1) λd=>opt (bZ i.2) λO=>callK (ρ.call 189 [LV.cv (CV.ref a b 0),bv d] v) (λx j=>opt (ci x) λy=>opt (bG y) λk=>opt (bN .u8 k.1) λz=>opt (bG k.2) λl=>opt (bN .i64 l.1) λm=>opt (bZ l.2) λP=>cond (decide (z=46)) (callK (ρ.call 193 [LV.cv (CV.ref a b 0),bv d] j) (λA e=>opt (ci A) λB=>opt (bG B) λn=>opt (cg n.1) λQ=>opt (bG n.2) λo=>opt (bN .i64 o.1) λR=>opt (bG o.2) λp=>opt (bO p.1) λC=>opt (bZ p.2) λS=>cond (!C) (callK (ρ.call 190 [LV.cv (CV.ref a b 0),bv m,LV.cv (CV.clo 160 [])] e) (λD F=>opt (ci D) λG=>opt (bG G) λq=>opt (cg q.1) λH=>opt (bG q.2) λr=>opt (bN .i64 r.1) λI=>opt (bZ r.2) λT=>opt (wA ρ a b I c H true 0 0 ([]:List UInt8) F) (kB ρ 192 f9 [])) pP) (cond (decide (c=([]:List UInt8))) (callK (ρ.call 190 [LV.cv (CV.ref a b 0),bv m,LV.cv (CV.clo 160 [])] e) (λJ K=>opt (ci J) λL=>opt (bG L) λs=>opt (cg s.1) λM=>opt (bG s.2) λt=>opt (bN .i64 t.1) λN=>opt (bZ t.2) λU=>opt (wA ρ a b N c M true 0 0 ([]:List UInt8) K) (kB ρ 192 f9 [])) pP) (opt (wA ρ a b d c ([]:List UInt8) false 0 0 ([]:List UInt8) e) (kB ρ 192 f9 [])))) pP) (opt (wA ρ a b d c ([]:List UInt8) false 0 0 ([]:List UInt8) j) (kB ρ 192 f9 []))) pP) pP:=bw
def SO (a b:Nat)(c:Int):SegD:=⟨UP,[(4,0),(5,0),(6,0)],cN 193 15,mS [(0,LV.cv (CV.ref a b 0)),(8,bv c)] []⟩
def Xu (a b:Nat)(c:Int)(d:Mu):=(SO a b c).seg ρ d
def lA (a:List UInt8)(b:Int)(c:Bool)(d:Mu):St:= .ret (mS [(4,LV.str a),(5,bv b),(6,LV.bool c)] []) d
def rL (a:CV)(b:Mu):St:= .panic a (mS [] []) b
def acD (d e g h):(SO d e g).sK ρ h=callK (ρ.call 190 [LV.cv (CV.ref d e 0),bv g,LV.cv (CV.clo 135 [])] h) (λm n=>opt (ci m) λo=>opt (bG o) λi=>opt (cg i.1) λp=>opt (bG i.2) λj=>opt (bN .i64 j.1) λq=>opt (bZ j.2) λB=>callK (ρ.call 189 [LV.cv (CV.ref d e 0),bv q] n) (λr s=>opt (ci r) λt=>opt (bG t) λk=>opt (bN .u8 k.1) λf=>opt (bG k.2) λl=>opt (bN .i64 l.1) λb=>opt (bZ l.2) λC=>callK (ρ.call 136 [LV.str p] s) (λu v=>opt (cg u) λa=>bD (small (List.length ([46]:List UInt8)+a.length)) (bD (small (List.length (([46]:List UInt8)++a)+List.length ([46]:List UInt8))) (callK (ρ.call 92 [] v) (λw x=>opt (cj w) λy=>callK (ρ.call 82 [LV.cv (CV.sl y),LV.str ((([46]:List UInt8)++a)++[46])] x) (λz c=>opt (bO z) λA=>cond (A) (cond (decide (f=46)) (some (lA ((([46]:List UInt8)++a)++[46]) b true c)) (some (lA ((([46]:List UInt8)++a)++[46]) b false c))) (cond (decide ((([46]:List UInt8)++a)++[46]=([46,84,82,85,69,46]:List UInt8))) (cond (decide (f=46)) (some (lA ((([46]:List UInt8)++a)++[46]) b true c)) (some (lA ((([46]:List UInt8)++a)++[46]) b false c))) (cond (decide (f=46)) (some (lA ((([46]:List UInt8)++a)++[46]) b (decide ((([46]:List UInt8)++a)++[46]=([46,70,65,76,83,69,46]:List UInt8))) c)) (some (lA ((([46]:List UInt8)++a)++[46]) b false c))))) (pX rL)) (pX rL)))) (pX rL)) (pX rL)) (pX rL):=bw
def QB (a b c d):kB ρ 193 UP [] (lA a b c d)=some (.ret (LV.ltup [LV.str a,bv b,LV.bool c]) d):=bw
def ajf (a b c d):bJ E ρ 193 [LV.cv (CV.ref a b 0),bv c] d=callK (ρ.call 189 [LV.cv (CV.ref a b 0),bv c] d) (λh e=>opt (ci h) λi=>opt (bG i) λf=>opt (bN .u8 f.1) λj=>opt (bG f.2) λg=>opt (bN .i64 g.1) λk=>opt (bZ g.2) λl=>cond (!decide (j=46)) (some (.ret (LV.ltup [LV.str [],bv c,LV.bool false]) e)) (opt (Xu ρ a b k e) (kB ρ 193 UP []))) pP:=bw
def Ts (a b:Nat)(c:Int)(d:List UInt8)(e:Int)(f:List UInt8)(g h:Int)(i:List UInt8):SegD:=⟨po,[(0,0),(1,0),(4,0),(7,0),(8,0)],cN 194 500,mS [(0,LV.cv (CV.ref a b 0)),(1,bv c),(4,LV.loc 0 0),(6,LV.str d),(7,bv e),(8,LV.str f)] [Ob.cells [bv g,bv h,LV.str i]]⟩
def LE (a b:Nat)(c:Int)(d:List UInt8)(e:Int)(f:List UInt8)(g h:Int)(i:List UInt8)(j:Mu):=(Ts a b c d e f g h i).loop ρ j
def SP (a b:Nat)(c:Int)(d:List UInt8)(e:Int)(f:List UInt8)(g h i:Int)(j:List UInt8):SegD:=⟨po,[(0,0),(1,0),(4,0),(6,0),(7,0),(8,0)],cN 194 8003,mS [(0,LV.cv (CV.ref a b 0)),(1,bv c),(4,LV.loc 0 0),(6,LV.str d),(7,bv e),(8,LV.str f),(9,bv g)] [Ob.cells [bv h,bv i,LV.str j]]⟩
def Lh (a b:Nat)(c:Int)(d:List UInt8)(e:Int)(f:List UInt8)(g h i:Int)(j:List UInt8)(k:Mu):=(SP a b c d e f g h i j).seg ρ k
def vk (a b:Nat)(c:Int)(d:List UInt8)(e:Int)(f:List UInt8)(g h:Int)(i:List UInt8)(j:Mu):St:= .exit 0 (mS [(0,LV.cv (CV.ref a b 0)),(1,bv c),(4,LV.loc 0 0),(6,LV.str d),(7,bv e),(8,LV.str f)] [Ob.cells [bv g,bv h,LV.str i]]) j
def AC (a b:Nat)(c:Int)(d:List UInt8)(e:Int)(f:List UInt8)(g h:Int)(i:List UInt8)(j:Mu):St:= .norm (mS [(0,LV.cv (CV.ref a b 0)),(1,bv c),(4,LV.loc 0 0),(6,LV.str d),(7,bv e),(8,LV.str f)] [Ob.cells [bv g,bv h,LV.str i]]) j
def XR (a:CV)(b:Mu):St:= .panic a (mS [] []) b
def A9 (a b:Nat)(c d:Int)(e:List UInt8)(f g:Int)(h:List UInt8)(i:Mu):St:= .exit 0 (mS [(0,LV.cv (CV.ref a b 0)),(1,bv c),(4,LV.loc 0 0),(7,bv d),(8,LV.str e)] [Ob.cells [bv f,bv g,LV.str h]]) i
def vA (a:CV)(b:Mu):St:= .panic a (mS [] []) b
def Mz (a b:Nat)(c d:Int)(e:List UInt8)(f g:Int)(h:List UInt8):SegD:=⟨po,[(4,0),(5,0)],cN 194 127,mS [(0,LV.cv (CV.ref a b 0)),(1,bv c),(4,LV.loc 0 0),(7,bv d),(8,LV.str e)] [Ob.cells [bv f,bv g,LV.str h]]⟩
def HS (a b:Nat)(c d:Int)(e:List UInt8)(f g:Int)(h:List UInt8)(i:Mu):=(Mz a b c d e f g h).seg ρ i
def yk (a b c:Int)(d:List UInt8)(e:Mu):St:= .ret (mS [(4,LV.loc 0 0),(5,bv a)] [Ob.cells [bv b,bv c,LV.str d]]) e
def F4 (a:CV)(b:Mu):St:= .panic a (mS [] []) b
def acE (c d a b i e f j k l g):(SP c d a b i e f j k l).sK ρ g=opt (cw E.P 9 (ce g c d) 0) λo=>opt (cg o) λp=>opt (gc p a (IntKind.wrap .i64 (a+f))) λh=>bD (small (e.length+h.length)) (opt (cw E.P 9 (ce g c d) 0) λq=>opt (cg q) λm=>opt (gc m (IntKind.wrap .i64 (a+IntKind.wrap .i64 (f+1))) (m.length:Int)) λr=>callK (ρ.call 214 [LV.str r,LV.str b] g) (λs n=>opt (bO s) λt=>cond (!t) (some (vk c d (IntKind.wrap .i64 (a+IntKind.wrap .i64 (f+1))) b i (e++h) j k l n)) (bD (small (List.length (e++h)+b.length)) (some (AC c d (IntKind.wrap .i64 (a+IntKind.wrap .i64 (f+1))) b i ((e++h)++b) j k l n)))) (pX XR)):=bw
def DS (a b c j d e f g h i):kR ρ po [.block 1,.seq (cN 194 1001)] [(0,0),(1,0),(4,0),(7,0),(8,0)] (cN 194 500) (vk a b c j d e f g h i)=some (A9 a b c d e f g h i):=bw
def QC (a b c d e f g h i j):kR ρ po [.block 1,.seq (cN 194 1001)] [(0,0),(1,0),(4,0),(7,0),(8,0)] (cN 194 500) (AC a b c d e f g h i j)=LE ρ a b (IntKind.wrap .i64 (c+1)) d e f g h i j:=bw
def NO (a b c d e f g h i j):(Ts a b c d e f g h i).rK ρ j=opt (cw E.P 9 (ce j a b) 0) λn=>opt (cg n) λl=>opt (gc l c (l.length:Int)) λo=>callK (ρ.call 213 [LV.str o,LV.str d] j) (λp m=>opt (bN .i64 p) λk=>cond (decide (k<0)) (callK (ρ.call 191 [bv 7] m) (λq r=>opt (ci q) λs=>opt (bZ s) λt=>opt (Lh ρ a b c d e f k g h i r) (kR ρ po [.block 1,.seq (cN 194 1001)] [(0,0),(1,0),(4,0),(7,0),(8,0)] (cN 194 500))) (pX vA)) (opt (Lh ρ a b c d e f k g h i m) (kR ρ po [.block 1,.seq (cN 194 1001)] [(0,0),(1,0),(4,0),(7,0),(8,0)] (cN 194 500)))) (pX vA):=bw
def aaj (b c a d e g h i f):(Mz b c a d e g h i).sK ρ f=callK (ρ.call 205 [LV.cv (CV.ref b c 0),bv d,bv a] f) (λj k=>opt (ci j) λl=>opt (bZ l) λr=>callK (ρ.call 206 [LV.str e] k) (λm n=>iy m λo p q=>some (yk a o p q n)) (pX F4)) (pX F4):=bw
def Om (a b c d e):kB ρ 194 po [] (yk a b c d e)=some (.ret (LV.ltup [LV.cv (CV.agg [bF b,bF c,CV.str d]),bv a]) e):=bw
def Rq (b c d e a f g h i):kB ρ 194 po [.block 0,.seq (cN 194 63)] (A9 b c d e a f g h i)=cond (decide (60<(a.length:Int))) (callK (ρ.call 191 [bv 8] i) (λj k=>opt (ci j) λl=>opt (bZ l) λm=>opt (HS ρ b c d e a f g h k) (kB ρ 194 po [])) pP) (opt (HS ρ b c d e a f g h i) (kB ρ 194 po [])):=bw
def Rr (a b):kB ρ 194 po [.block 0,.seq (cN 194 63)] (vA a b)=bD (below (List.length b) a) (some (.panic a b)):=bw
def ajg (b c a d):bJ E ρ 194 [LV.cv (CV.ref b c 0),bv a] d=opt (cw E.P 9 (ce d b c) 0) λe=>opt (cg e) λf=>opt (gc f a (IntKind.wrap .i64 (a+1))) λg=>opt (LE ρ b c (IntKind.wrap .i64 (a+1)) g a ([]:List UInt8) 0 0 ([]:List UInt8) d) (kB ρ 194 po [.block 0,.seq (cN 194 63)]):=bw
def SQ (a b c d:Int)(e:List UInt8)(f g:Int)(h:List UInt8):SegD:=⟨nW,[(4,0),(5,0)],cN 195 63,mS [(4,LV.loc 0 0),(6,LV.int .u8 a),(7,bv b),(8,LV.int .u8 c),(9,bv d),(10,LV.str e)] [Ob.cells [bv f,bv g,LV.str h]]⟩
def Xv (a b c d:Int)(e:List UInt8)(f g:Int)(h:List UInt8)(i:Mu):=(SQ a b c d e f g h).seg ρ i
def oP (a b c:Int)(d:List UInt8)(e:Mu):St:= .ret (mS [(4,LV.loc 0 0),(5,bv a)] [Ob.cells [bv b,bv c,LV.str d]]) e
def SR (a b c d:Int)(e:List UInt8):SegD:=⟨nW,[(4,0),(5,0)],cN 195 127,mS [(4,LV.loc 0 0),(6,LV.int .u8 a),(7,bv b)] [Ob.cells [bv c,bv d,LV.str e]]⟩
def Lk (a b c d:Int)(e:List UInt8)(f:Mu):=(SR a b c d e).seg ρ f
def rM (a b c:Int)(d:List UInt8)(e:Mu):St:= .ret (mS [(4,LV.loc 0 0),(5,bv a)] [Ob.cells [bv b,bv c,LV.str d]]) e
def MA (a:Int)(b:List UInt8)(c d:Int)(e:List UInt8):SegD:=⟨nW,[(4,0),(5,0)],cN 195 511,mS [(4,LV.loc 0 0),(7,bv a),(13,LV.str b)] [Ob.cells [bv c,bv d,LV.str e]]⟩
def R9 (a:Int)(b:List UInt8)(c d:Int)(e:List UInt8)(f:Mu):=(MA a b c d e).seg ρ f
def te (a b c:Int)(d:List UInt8)(e:Mu):St:= .ret (mS [(4,LV.loc 0 0),(5,bv a)] [Ob.cells [bv b,bv c,LV.str d]]) e
def pD (a:CV)(b:Mu):St:= .panic a (mS [] []) b
def rN (a:CV)(b:Mu):St:= .panic a (mS [] []) b
def mJ (a:CV)(b:Mu):St:= .panic a (mS [] []) b
def aak (b a e f g c):(MA b a e f g).sK ρ c=callK (ρ.call 93 [] c) (λh i=>opt (cj h) λj=>callK (ρ.call 82 [LV.cv (CV.sl j),LV.str a] i) (λk d=>opt (bO k) λl=>cond (!l) (callK (ρ.call 191 [bv 7] d) (λm n=>opt (ci m) λo=>opt (bZ o) λp=>some (te b 2 0 a n)) (pX pD)) (some (te b 2 0 a d))) (pX pD)) (pX pD):=bw
def On (a b c d e):kS ρ nW [] [(4,0),(5,0)] (te a b c d e)=some (rM a b c d e):=bw
def Oo (a b):kS ρ nW [] [(4,0),(5,0)] (pD a b)=some (rN a b):=bw
def acG (g a b c d h):(SR g a b c d).sK ρ h=opt (dg [CV.int .u8 g]) λi=>callK (ρ.call 215 [] h) (λj e=>opt (cW j) λk=>opt (C1 (LV.cv k) {fr:=λ_=> .cv .undef,lam:=[Ob.cells [bv b,bv c,LV.str d]],pushed:=false} e) λf=>bD (p3 .string f.1) (optE (lq f.1 f.2 (Value.string ⟨⟨i⟩⟩)) (λl=>opt (cg (LV.cv l)) λm=>some (rM a 2 0 m e)) (opt (R9 ρ a i b c d e) (kS ρ nW [] [(4,0),(5,0)])))) (pX rN):=bw
def QF (a b c d e):kS ρ nW [] [(4,0),(5,0)] (rM a b c d e)=some (oP a b c d e):=bw
def QG (a b):kS ρ nW [] [(4,0),(5,0)] (rN a b)=some (mJ a b):=bw
def acF (a b h i c d e f g):(SQ a b h i c d e f).sK ρ g=cond (!decide (h=0)) (callK (ρ.call 93 [] g) (λk l=>opt (cj k) λm=>callK (ρ.call 82 [LV.cv (CV.sl m),LV.str c] l) (λn j=>opt (bO n) λo=>cond (o) (some (oP i 2 0 c j)) (opt (Lk ρ a b d e f j) (kS ρ nW [] [(4,0),(5,0)]))) (pX mJ)) (pX mJ)) (opt (Lk ρ a b d e f g) (kS ρ nW [] [(4,0),(5,0)])):=bw
def QD (a b c d e):kB ρ 195 nW [] (oP a b c d e)=some (.ret (LV.ltup [LV.cv (CV.agg [bF b,bF c,CV.str d]),bv a]) e):=bw
def QE (a b):kB ρ 195 nW [] (mJ a b)=bD (below (List.length b) a) (some (.panic a b)):=bw
def ajh (a b e f):bJ E ρ 195 [LV.cv (CV.ref a b 0),bv e] f=callK (ρ.call 189 [LV.cv (CV.ref a b 0),bv e] f) (λp q=>opt (ci p) λr=>opt (bG r) λg=>opt (bN .u8 g.1) λh=>opt (bG g.2) λi=>opt (bN .i64 i.1) λj=>opt (bZ i.2) λz=>callK (ρ.call 189 [LV.cv (CV.ref a b 0),bv j] q) (λs t=>opt (ci s) λu=>opt (bG u) λk=>opt (bN .u8 k.1) λl=>opt (bG k.2) λm=>opt (bN .i64 m.1) λn=>opt (bZ m.2) λA=>opt (dg [CV.int .u8 h,CV.int .u8 l]) λo=>callK (ρ.call 215 [] t) (λv c=>opt (cW v) λw=>opt (C1 (LV.cv w) {fr:=λ_=> .cv .undef,lam:=[Ob.cells [bv 0,bv 0,LV.str []]],pushed:=false} c) λd=>bD (p3 .string d.1) (optE (lq d.1 d.2 (Value.string ⟨⟨o⟩⟩)) (λx=>opt (cg (LV.cv x)) λy=>some (.ret (LV.ltup [LV.cv (CV.agg [bF 2,bF 0,CV.str y]),bv n]) c)) (opt (Xv ρ h j l n o 0 0 ([]:List UInt8) c) (kB ρ 195 nW [])))) pP) pP) pP:=bw
def SS (a:Lam):SegD:=⟨ig,[(2,0)],cN 204 31,mS [(1,LV.loc 0 0),(3,LV.loc 1 0),(4,LV.lclo 222 [LV.loc 0 0,LV.loc 1 0])] a true⟩
def af3 (a:Lam)(b:Mu):=(SS a).seg ρ b
def If (a:Bool)(b:Lam):SegD:=⟨ig,[(1,0),(3,0),(4,0)],cN 204 125,mS [(1,LV.loc 0 0),(3,LV.loc 1 0),(4,LV.lclo 222 [LV.loc 0 0,LV.loc 1 0]),(10,LV.bool a)] b true⟩
def FL (a:Bool)(b:Lam)(c:Mu):=(If a b).seg ρ c
def ST (a:Lam):SegD:=⟨ig,[(1,0),(3,0),(4,0)],cN 204 501,mS [(3,LV.loc 1 0)] a true⟩
def Ll (a:Lam)(b:Mu):=(ST a).seg ρ b
def AH (a b:CV)(c:List CV)(d:Mu):St:= .ret (mS [(2,LV.cv a)] [Ob.cells [LV.cv b],Ob.cells [LV.osl c]] true) d
def AE (a b:CV)(c:List CV)(d:Mu):St:= .ret (mS [(2,LV.cv a)] [Ob.cells [LV.cv b],Ob.cells [LV.osl c]] true) d
def AF (a:CV)(b:Lam)(c:Mu):St:= .panic a (mS [] b true) c
def AG (a:CV)(b:List CV)(c:Mu):St:= .norm (mS [(1,LV.loc 0 0),(3,LV.loc 1 0),(4,LV.lclo 222 [LV.loc 0 0,LV.loc 1 0])] [Ob.cells [LV.cv a],Ob.cells [LV.osl b]] true) c
def Jo (a b:CV)(c:List CV)(d:Mu):St:= .ret (mS [(2,LV.cv a)] [Ob.cells [LV.cv b],Ob.cells [LV.osl c]] true) d
def AD (a:CV)(b:Lam)(c:Mu):St:= .panic a (mS [] b true) c
def SU (a:Lam):SegD:=⟨ig,[(2,0)],cN 204 63,mS [(1,LV.loc 0 0),(3,LV.loc 1 0),(4,LV.lclo 222 [LV.loc 0 0,LV.loc 1 0])] a true⟩
def af4 (a:Lam)(b:Mu):=(SU a).seg ρ b
def SV (a:Lam):SegD:=⟨ig,[(2,0)],cN 204 127,mS [(1,LV.loc 0 0),(3,LV.loc 1 0)] a true⟩
def Xw (a:Lam)(b:Mu):=(SV a).seg ρ b
def MB (a:Bool)(b:Lam):SegD:=⟨ig,[(3,0)],cN 204 509,mS [(1,LV.loc 0 0),(3,LV.loc 1 0),(22,LV.bool a)] b true⟩
def Sa (a:Bool)(b:Lam)(c:Mu):=(MB a b).seg ρ c
def F5 (a:Lam)(b:Mu):St:= .norm (mS [(3,LV.loc 1 0)] a true) b
def F6 (a:CV)(b:Lam)(c:Mu):St:= .panic a (mS [] b true) c
def yl (a:CV)(b:List CV)(c:Mu):St:= .norm (mS [(3,LV.loc 1 0)] [Ob.cells [LV.cv a],Ob.cells [LV.osl b]] true) c
def MC (a:Lam):SegD:=⟨ig,[(2,0)],cN 204 255,mS [(3,LV.loc 1 0)] a true⟩
def HT (a:Lam)(b:Mu):=(MC a).seg ρ b
def vm (a:CV)(b:Lam)(c:Mu):St:= .panic a (mS [] b true) c
def AI (a:CV)(b:Lam)(c:Mu):St:= .panic a (mS [] b true) c
def acI (b:CV)(a:List CV)(c:Mu):(ST [Ob.cells [LV.cv b],Ob.cells [LV.osl a]]).sK ρ c=opt (cT a 0) λd=>bD (dJ d) (some (AH d b a c)):=bw
def QL (a b c d):kS ρ ig [] [(1,0),(3,0),(4,0)] (AH a b c d)=some (AE a b c d):=bw
def Fm (d:Bool)(b:CV)(a:List CV)(c:Mu):(If d [Ob.cells [LV.cv b],Ob.cells [LV.osl a]]).sK ρ c=cond (d) (opt (cT a 0) λe=>bD (dJ e) (opt (uJ (LV.cv e)) λh=>cond (h) (callK (ρ.call 183 [] (c++[[Ob.cells [LV.cv b],Ob.cells [LV.osl a]]])) (λi j=>opt (eE j) λf=>opt (ci i) λk=>opt (bZ k) λo=>qR [(0,[3]),(1,[1])] f.2 λl=>opt (Ll ρ l f.1) (kS ρ ig [] [(1,0),(3,0),(4,0)])) (λm n=>opt (eE n) λg=>some (AF m g.2 g.1))) (opt (Ll ρ [Ob.cells [LV.cv b],Ob.cells [LV.osl a]] c) (kS ρ ig [] [(1,0),(3,0),(4,0)])))) (some (AG b a c)):=bw
def QI (a b c d):kS ρ ig [.seq (cN 204 63)] [(2,0)] (AE a b c d)=some (Jo a b c d):=bw
def QJ (a b c):kS ρ ig [.seq (cN 204 63)] [(2,0)] (AF a b c)=some (AD a b c):=bw
def J0 (f:Bool)(d:CV)(a:List CV)(e:Mu):(MB f [Ob.cells [LV.cv d],Ob.cells [LV.osl a]]).sK ρ e=cond (f) (callK (ρ.call 95 [LV.cv d] (e++[[Ob.cells [LV.cv d],Ob.dead]])) (λh i=>opt (eE i) λb=>opt (cW h) λc=>bD (Nat.blt 1 (List.length b.2)&& !lp (bU b.2 1)) (bD (dJ c) (bD (noB c&&true) (bD (jw [c]&&eq 1 a [c]) (qP E.P 107 (bU (List.set b.2 1 (Ob.cells [LV.cv (CV.sl a)])) 1) 0 (LV.osl (a++[c])) λj=>some (F5 (List.set (List.set b.2 1 (Ob.cells [LV.cv (CV.sl a)])) 1 j) b.1)))))) (λk l=>opt (eE l) λg=>some (F6 k g.2 g.1))) (bD (eq 1 a [CV.v (.pointer none)]) (some (yl d (a++[CV.v (.pointer none)]) e))):=bw
def Oq (a b):kS ρ ig [.seq (cN 204 255)] [(2,0)] (F5 a b)=qR [(0,[3])] a λc=>opt (HT ρ c b) (kS ρ ig [] [(2,0)]):=bw
def Ot (a b c):kS ρ ig [.seq (cN 204 255)] [(2,0)] (F6 a b c)=some (vm a b c):=bw
def Ou (a b c):kS ρ ig [.seq (cN 204 255)] [(2,0)] (yl a b c)=opt (HT ρ [Ob.cells [LV.cv a],Ob.cells [LV.osl b]] c) (kS ρ ig [] [(2,0)]):=bw
def acK (a:CV)(b:List CV)(c:Mu):(SV [Ob.cells [LV.cv a],Ob.cells [LV.osl b]]).sK ρ c=callK (ρ.call 162 [LV.cv a,LV.str [58]] (c++[[Ob.cells [LV.cv a],Ob.cells [LV.osl b]]])) (λf g=>opt (eE g) λd=>opt (bO f) λh=>qR [(0,[3]),(1,[1])] d.2 λi=>opt (Sa ρ h i d.1) (kS ρ ig [.seq (cN 204 255)] [(2,0)])) (λj k=>opt (eE k) λe=>some (vm j e.2 e.1)):=bw
def QM (a b c):kS ρ ig [] [(2,0)] (vm a b c)=some (AI a b c):=bw
def acJ (b:CV)(c:List CV)(a:Mu):(SU [Ob.cells [LV.cv b],Ob.cells [LV.osl c]]).sK ρ a=callK (ρ.call 222 [LV.cv (CV.ref (List.length a) 0 0),LV.cv (CV.ref (List.length a) 1 0)] (a++[[Ob.cells [LV.cv b],Ob.cells [LV.osl c]]])) (λf g=>opt (eE g) λd=>opt (ci f) λh=>opt (bZ h) λl=>qR [(0,[3]),(1,[1])] d.2 λi=>opt (Xw ρ i d.1) (kS ρ ig [] [(2,0)])) (λj k=>opt (eE k) λe=>some (AI j e.2 e.1)):=bw
def DT (a b c):kS ρ ig [] [(2,0)] (AI a b c)=some (AD a b c):=bw
def QK (a b c):kS ρ ig [.seq (cN 204 63)] [(2,0)] (AG a b c)=opt (af4 ρ [Ob.cells [LV.cv a],Ob.cells [LV.osl b]] c) (kS ρ ig [] [(2,0)]):=bw
def acH (a:CV)(b:List CV)(c:Mu):(SS [Ob.cells [LV.cv a],Ob.cells [LV.osl b]]).sK ρ c=callK (ρ.call 162 [LV.cv a,LV.str [58]] (c++[[Ob.cells [LV.cv a],Ob.cells [LV.osl b]]])) (λf g=>opt (eE g) λd=>opt (bO f) λh=>qR [(0,[3]),(1,[1])] d.2 λi=>opt (FL ρ (!h) i d.1) (kS ρ ig [.seq (cN 204 63)] [(2,0)])) (λj k=>opt (eE k) λe=>some (AD j e.2 e.1)):=bw
def QH (a c d b):kB ρ 204 ig [] (Jo a c d b)=bD (fj (List.length b) (LV.cv a)) (some (.ret (LV.cv a) b)):=bw
def aji (b c a):bJ E ρ 204 [LV.cv (CV.ref b c 0)] a=callK (ρ.call 222 [LV.cv (CV.ref (List.length a) 0 0),LV.cv (CV.ref (List.length a) 1 0)] (a++[[Ob.cells [LV.cv (CV.ref b c 0)],Ob.cells [LV.cv (CV.v (.slice none 0 0))]]])) (λg h=>opt (eE h) λd=>opt (ci g) λi=>opt (bZ i) λl=>qR [(0,[3]),(1,[1])] d.2 λj=>opt (af3 ρ j d.1) (kB ρ 204 ig [])) (λe k=>opt (eE k) λf=>bD (below (List.length f.1) e) (some (.panic e f.1))):=bw
def Tt (a b:Nat)(c d:Int):SegD:=⟨UQ,[],cN 205 12,mS [(0,LV.cv (CV.ref a b 0)),(2,bv c),(6,bv d)] []⟩
def LF (a b:Nat)(c d:Int)(e:Mu):=(Tt a b c d).loop ρ e
def Ba (a:Mu):St:= .exit 0 (mS [] []) a
def NP (a b e c d):(Tt a b e c).rK ρ d=cond (decide (c<e)) (opt (jl E.P 55 (ce d a b) 3) λf=>opt (iJ f.1) λg=>bD (eq 1 g [bF c]) (bD (dp (a+1) (g++[bF c])) (opt (dv E.P 55 (ce (cx d a b f.2) a b) 3 (LV.osl (g++[bF c]))) λh=>LF ρ a b e (IntKind.wrap .i64 (c+1)) (cx (cx d a b f.2) a b h)))) (some (Ba d)):=bw
def Rs (a):kB ρ 205 UQ [.block 0] (Ba a)=some (.ret (LV.ltup []) a):=bw
def ajj (a b c d e):bJ E ρ 205 [LV.cv (CV.ref a b 0),bv c,bv d] e=opt (LF ρ a b d c e) (kB ρ 205 UQ [.block 0]):=bw
def ajk (b c):bJ E ρ 206 [LV.str b] c=callK (ρ.call 224 [LV.str b,LV.str [39],LV.str [39,39]] c) (λd e=>opt (cg d) λa=>bD (small (List.length ([39]:List UInt8)+a.length)) (bD (small (List.length (([39]:List UInt8)++a)+List.length ([39]:List UInt8))) (some (.ret (LV.cv (CV.agg [bF 1,bF 6,CV.str ((([39]:List UInt8)++a)++[39])])) e)))) pP:=bw
def Tu (a b:Nat)(c:Int):SegD:=⟨UR,[(1,0)],cN 207 24,mS [(0,LV.cv (CV.ref a b 0)),(1,bv c)] []⟩
def LG (a b:Nat)(c:Int)(d:Mu):=(Tu a b c).loop ρ d
def rP (a:Int)(b:Mu):St:= .exit 0 (mS [(1,bv a)] []) b
def NQ (c d b a):(Tu c d b).rK ρ a=opt (cw E.P 4 (ce a c d) 1) λe=>opt (bO e) λf=>cond (f) (opt (cw E.P 9 (ce a c d) 0) λg=>opt (cg g) λh=>cond (decide (b<(h.length:Int))) (opt (cw E.P 9 (ce a c d) 0) λi=>opt (cg i) λj=>opt (dm j b) λk=>cond (decide ((k.toNat:Int)=32)) (LG ρ c d (IntKind.wrap .i64 (b+1)) a) (some (rP b a))) (some (rP b a))) (some (rP b a)):=bw
def Rt (a b):kB ρ 207 UR [.block 0,.seq (cN 207 7)] (rP a b)=some (.ret (bv a) b):=bw
def ajl (a b c d):bJ E ρ 207 [LV.cv (CV.ref a b 0),bv c] d=opt (LG ρ a b c d) (kB ρ 207 UR [.block 0,.seq (cN 207 7)]):=bw
def SW (a b:Nat)(c d:Int):SegD:=⟨sO,[(4,0),(5,0),(6,0),(7,0)],cN 208 31,mS [(0,LV.cv (CV.ref a b 0)),(4,LV.int .u8 c),(9,bv d)] []⟩
def Lm (a b:Nat)(c d:Int)(e:Mu):=(SW a b c d).seg ρ e
def MD (a b:Nat)(c d:Int)(e:List UInt8):SegD:=⟨sO,[(4,0),(5,0),(6,0),(7,0)],cN 208 127,mS [(0,LV.cv (CV.ref a b 0)),(4,LV.int .u8 c),(9,bv d),(10,LV.str e)] []⟩
def tM (a b:Nat)(c d:Int)(e:List UInt8)(f:Mu):=(MD a b c d e).seg ρ f
def ym (a:Int)(b:List UInt8)(c:Int)(d:Bool)(e:Mu):St:= .ret (mS [(4,LV.int .u8 a),(5,LV.str b),(6,bv c),(7,LV.bool d)] []) e
def U0 (a:CV)(b:Mu):St:= .panic a (mS [] []) b
def AJ (a:Int)(b:List UInt8)(c:Int)(d:Bool)(e:Mu):St:= .ret (mS [(4,LV.int .u8 a),(5,LV.str b),(6,bv c),(7,LV.bool d)] []) e
def XS (a:CV)(b:Mu):St:= .panic a (mS [] []) b
def aal (c d e f a g):(MD c d e f a).sK ρ g=callK (ρ.call 190 [LV.cv (CV.ref c d 0),bv f,LV.cv (CV.clo 160 [])] g) (λj k=>opt (ci j) λl=>opt (bG l) λh=>opt (cg h.1) λb=>opt (bG h.2) λi=>opt (bN .i64 i.1) λm=>opt (bZ i.2) λn=>bD (small (a.length+b.length)) (some (ym e (a++b) m (!decide (b=([]:List UInt8))) k))) (pX U0):=bw
def uI (a b c d e):kS ρ sO [] [(4,0),(5,0),(6,0),(7,0)] (ym a b c d e)=some (AJ a b c d e):=bw
def acL (a b c g h):(SW a b c g).sK ρ h=callK (ρ.call 189 [LV.cv (CV.ref a b 0),bv g] h) (λk d=>opt (ci k) λl=>opt (bG l) λi=>opt (bN .u8 i.1) λe=>opt (bG i.2) λj=>opt (bN .i64 j.1) λf=>opt (bZ j.2) λm=>cond (decide (e=43)) (cond (decide (e=45)) (opt (tM ρ a b c f ([45]:List UInt8) d) (kS ρ sO [] [(4,0),(5,0),(6,0),(7,0)])) (opt (tM ρ a b c f ([]:List UInt8) d) (kS ρ sO [] [(4,0),(5,0),(6,0),(7,0)]))) (cond (decide (e=45)) (cond (decide (e=45)) (opt (tM ρ a b c f ([45]:List UInt8) d) (kS ρ sO [] [(4,0),(5,0),(6,0),(7,0)])) (opt (tM ρ a b c f ([]:List UInt8) d) (kS ρ sO [] [(4,0),(5,0),(6,0),(7,0)]))) (opt (tM ρ a b c g ([]:List UInt8) d) (kS ρ sO [] [(4,0),(5,0),(6,0),(7,0)])))) (pX XS):=bw
def DU (a b c d e):kB ρ 208 sO [] (AJ a b c d e)=some (.ret (LV.ltup [LV.int .u8 a,LV.str b,bv c,LV.bool d]) e):=bw
def ajm (a b d f):bJ E ρ 208 [LV.cv (CV.ref a b 0),bv d] f=callK (ρ.call 189 [LV.cv (CV.ref a b 0),bv d] f) (λj e=>opt (ci j) λk=>opt (bG k) λg=>opt (bN .u8 g.1) λc=>opt (bG g.2) λh=>opt (bN .i64 h.1) λi=>opt (bZ h.2) λl=>cond (!decide (IntKind.wrap .u8 ((BitVec.ofInt (IntKind.bits .u8) c &&& ~~~BitVec.ofInt (IntKind.bits .u8) (32:Int)).toNat:Int)=69)) (cond (!decide (IntKind.wrap .u8 ((BitVec.ofInt (IntKind.bits .u8) c &&& ~~~BitVec.ofInt (IntKind.bits .u8) (32:Int)).toNat:Int)=68)) (some (.ret (LV.ltup [LV.int .u8 0,LV.str [],bv d,LV.bool false]) e)) (opt (Lm ρ a b (IntKind.wrap .u8 ((BitVec.ofInt (IntKind.bits .u8) c &&& ~~~BitVec.ofInt (IntKind.bits .u8) (32:Int)).toNat:Int)) i e) (kB ρ 208 sO []))) (opt (Lm ρ a b (IntKind.wrap .u8 ((BitVec.ofInt (IntKind.bits .u8) c &&& ~~~BitVec.ofInt (IntKind.bits .u8) (32:Int)).toNat:Int)) i e) (kB ρ 208 sO []))) pP:=bw
def ajn (c d):bJ E ρ 209 [LV.str c] d=callK (ρ.call 133 [LV.str c] d) (λg b=>opt (ci g) λh=>opt (bG h) λe=>opt (bN .i64 e.1) λa=>opt (bG e.2) λf=>opt (cW f.1) λi=>opt (bZ f.2) λG=>cond (decide (10<(c.length:Int))) (callK (ρ.call 191 [bv 28] b) (λj k=>opt (ci j) λl=>opt (bZ l) λH=>callK (ρ.call 199 [bv a] k) (λm n=>opt (cg m) λo=>some (.ret (LV.cv (CV.agg [bF 1,bF 0,CV.str o])) n)) pP) pP) (opt (KX (LV.cv i)) λp=>cond (!p) (callK (ρ.call 191 [bv 28] b) (λq r=>opt (ci q) λs=>opt (bZ s) λI=>callK (ρ.call 199 [bv a] r) (λt u=>opt (cg t) λv=>some (.ret (LV.cv (CV.agg [bF 1,bF 0,CV.str v])) u)) pP) pP) (cond (decide (2147483647<a)) (callK (ρ.call 191 [bv 28] b) (λw x=>opt (ci w) λy=>opt (bZ y) λJ=>callK (ρ.call 199 [bv a] x) (λz A=>opt (cg z) λB=>some (.ret (LV.cv (CV.agg [bF 1,bF 0,CV.str B])) A)) pP) pP) (callK (ρ.call 199 [bv a] b) (λC D=>opt (cg C) λF=>some (.ret (LV.cv (CV.agg [bF 1,bF 0,CV.str F])) D)) pP)))) pP:=bw
def ajo (a b c):bJ E ρ 210 [LV.str a,LV.str b] c=callK (ρ.call 225 [LV.str a,LV.str [48]] c) (λd e=>opt (cg d) λf=>callK (ρ.call 226 [LV.str b,LV.str [48]] e) (λg h=>opt (cg g) λi=>some (.ret (bv (IntKind.wrap .i64 ((f.length:Int)+(i.length:Int)))) h)) pP) pP:=bw
def aeb (a c b):bJ E ρ 212 [LV.str a,LV.bool c] b=cond (c) (callK (ρ.call 225 [LV.str a,LV.str [48]] b) (λh d=>opt (cg h) λe=>cond (decide (e=([]:List UInt8))) (some (.ret (LV.str [48]) d)) (some (.ret (LV.str e) d))) pP) (callK (ρ.call 226 [LV.str a,LV.str [48]] b) (λi f=>opt (cg i) λg=>cond (decide (g=([]:List UInt8))) (some (.ret (LV.str [48]) f)) (some (.ret (LV.str g) f))) pP):=bw
def ajp (a):bJ E ρ 215 [] a=some (.ret (LV.cv (CV.mview [Value.string ⟨⟨([60,61]:List UInt8)⟩⟩,Value.string ⟨⟨([62,61]:List UInt8)⟩⟩,Value.string ⟨⟨([61,61]:List UInt8)⟩⟩,Value.string ⟨⟨([47,61]:List UInt8)⟩⟩,Value.string ⟨⟨([60]:List UInt8)⟩⟩,Value.string ⟨⟨([62]:List UInt8)⟩⟩] [CV.str [46,76,69,46],CV.str [46,71,69,46],CV.str [46,69,81,46],CV.str [46,78,69,46],CV.str [46,76,84,46],CV.str [46,71,84,46]])) a):=bw
def ajq (g h a b i):bJ E ρ 222 [LV.cv (CV.ref g h 0),LV.cv (CV.ref a b 0)] i=opt (cw E.P 88 (ce i g h) 0) λm=>opt (cW m) λn=>callK (ρ.call 223 [LV.cv n] i) (λo c=>opt (bO o) λp=>cond (p) (opt (jl E.P 107 (ce c a b) 0) λj=>opt (iJ j.1) λk=>bD (eq 1 k [CV.v (.pointer none)]) (bD (dp (a+1) (k++[CV.v (.pointer none)])) (opt (dv E.P 107 (ce (cx c a b j.2) a b) 0 (LV.osl (k++[CV.v (.pointer none)]))) λq=>some (.ret (LV.ltup []) (cx (cx c a b j.2) a b q))))) (opt (jl E.P 107 (ce c a b) 0) λd=>opt (iJ d.1) λl=>opt (cw E.P 88 (ce (cx c a b d.2) g h) 0) λr=>opt (cW r) λs=>bD (lp (ce (cx c a b d.2) a b)) (callK (ρ.call 95 [LV.cv s] (cx (cx c a b d.2) a b Ob.dead)) (λt f=>opt (cW t) λe=>bD (BA f a b&& !lp (ce f a b)) (bD (dJ e) (bD (noB e&&true) (bD (jw [e]&&eq 1 l [e]) (bD (dp (a+1) (l++[e])) (opt (dv E.P 107 (ce (cx f a b (ce (cx c a b d.2) a b)) a b) 0 (LV.osl (l++[e]))) λu=>some (.ret (LV.ltup []) (cx (cx f a b (ce (cx c a b d.2) a b)) a b u)))))))) pP))) pP:=bw
def ajr (a b c):bJ E ρ 223 [LV.cv (CV.ref a b 0)] c=callK (ρ.call 164 [LV.cv (CV.ref a b 0)] c) (λd e=>opt (cg d) λf=>callK (ρ.call 82 [LV.osl [CV.str [58],CV.str [44],CV.str [41]],LV.str f] e) (λg h=>opt (bO g) λi=>some (.ret (LV.bool i) h)) pP) pP:=bw
end
end Go.Abs
