/-
  The statement ExprLevelsCardSaid, proved; part 7 of 11 of its proof.
  Normal forms. Printed by a program.
-/
import Derived.Test.YtmemoghbijcebaaGreatDoorV4
set_option linter.all false
set_option maxRecDepth 1000000
namespace Go.Abs
open Go Go.Proofs
noncomputable section
variable (ρ:Rho)
def XS (a b c:Int):SegD:=⟨H7,[(6,0)],cN 7 7,mS [(0,bv a),(1,bv b),(2,LV.int .u8 c)] []⟩
def Z1 (a b c:Int)(d:Mu):=(XS a b c).seg ρ d
def uM (a:Bool)(b:Mu):St:= .ret (mS [(6,LV.bool a)] []) b
def XT (a b c:Int):SegD:=⟨H7,[(6,0)],cN 7 15,mS [(0,bv a),(1,bv b),(2,LV.int .u8 c)] []⟩
def Z2 (a b c:Int)(d:Mu):=(XT a b c).seg ρ d
def Ao (a:Bool)(b:Mu):St:= .ret (mS [(6,LV.bool a)] []) b
def XU (a b c:Int)(d e:List UInt8)(f:List CV)(g:Int):SegD:=⟨H7,[(6,0)],cN 7 127,mS [(0,bv a),(1,bv b),(2,LV.int .u8 c),(7,LV.str d),(8,LV.str e),(9,LV.cv (CV.sl f)),(10,bv g)] []⟩
def Vq (a b c:Int)(d e:List UInt8)(f:List CV)(g:Int)(h:Mu):=(XU a b c d e f g).seg ρ h
def S4 (a b:Int)(c:List UInt8)(d:Int)(e:List UInt8)(f:Int)(g h:List UInt8):SegD:=⟨H7,[(6,0)],cN 7 4095,mS [(0,bv a),(2,LV.int .u8 b),(7,LV.str c),(10,bv d),(11,LV.str e),(12,bv f),(14,LV.str g),(15,LV.str h)] []⟩
def vU (a b:Int)(c:List UInt8)(d:Int)(e:List UInt8)(f:Int)(g h:List UInt8)(i:Mu):=(S4 a b c d e f g h).seg ρ i
def l0 (a:Bool)(b:Mu):St:= .ret (mS [(6,LV.bool a)] []) b
def S5 (a b:Int)(c d e:List UInt8):SegD:=⟨H7,[(6,0)],cN 7 8191,mS [(0,bv a),(2,LV.int .u8 b),(7,LV.str c),(14,LV.str d),(15,LV.str e)] []⟩
def XK (a b:Int)(c d e:List UInt8)(f:Mu):=(S5 a b c d e).seg ρ f
def py (a:Bool)(b:Mu):St:= .ret (mS [(6,LV.bool a)] []) b
def S6 (a b:Int)(c:List UInt8):SegD:=⟨H7,[(6,0)],cN 7 65535,mS [(0,bv a),(2,LV.int .u8 b),(7,LV.str c)] []⟩
def XL (a b:Int)(c:List UInt8)(d:Mu):=(S6 a b c).seg ρ d
def pz (a:Bool)(b:Mu):St:= .ret (mS [(6,LV.bool a)] []) b
def S7 (a b:List UInt8)(c:Int)(d:List UInt8)(e:Int):SegD:=⟨H7,[(6,0)],cN 7 2097151,mS [(7,LV.str a),(20,LV.str b),(23,bv c),(24,LV.str d),(25,bv e)] []⟩
def XM (a b:List UInt8)(c:Int)(d:List UInt8)(e:Int)(f:Mu):=(S7 a b c d e).seg ρ f
def sE (a:Bool)(b:Mu):St:= .ret (mS [(6,LV.bool a)] []) b
def wt (a:CV)(b:Mu):St:= .panic a (mS [] []) b
def wq (a:CV)(b:Mu):St:= .panic a (mS [] []) b
def Ff (a:Bool)(b:Mu):St:= .ret (mS [(6,LV.bool a)] []) b
def rU (a:CV)(b:Mu):St:= .panic a (mS [] []) b
def uN (a:CV)(b:Mu):St:= .panic a (mS [] []) b
def NE (a:CV)(b:Mu):St:= .panic a (mS [] []) b
def Zv (b a d e f c):(S7 b a d e f).sK ρ c=cond (decide (d=0)) (cond (decide (f=0)) (bB (small (List.length ([91,91]:List UInt8)+a.length)) (bB (small (List.length (([91,91]:List UInt8)++a)+List.length ([65,93]:List UInt8))) (bB (small (List.length ((([91,91]:List UInt8)++a)++[65,93])+b.length)) (bB (small (List.length (((([91,91]:List UInt8)++a)++[65,93])++b)+List.length ([66,93]:List UInt8))) (some (sE (decide (e=(((([91,91]:List UInt8)++a)++[65,93])++b)++[66,93])) c)))))) (some (sE false c))) (some (sE false c)):=bx
def QZ (a b):kS ρ H7 [] [(6,0)] (sE a b)=some (pz a b):=bx
def Zu (e d b f):(S6 e d b).sK ρ f=opt (dr [CV.str [43],CV.str [45],CV.str [46,78,79,84,46]] (Int.tmod d 3)) λn=>opt (cf (LV.cv n)) λa=>opt (dr [bD 7,bD 7,bD 4] (Int.tmod d 3)) λo=>opt (bI .i64 (LV.cv o)) λp=>bB (small (a.length+List.length ([65]:List UInt8))) (bB (small (List.length (a++[65])+b.length)) (bB (small (List.length ((a++[65])++b)+List.length ([66]:List UInt8))) (callK (ρ.call 13 [LV.str (((a++[65])++b)++[66])] f) (λq r=>opt (b9 q) λs=>opt (bC s) λg=>opt (cR g.1) λt=>opt (bC g.2) λh=>opt (bI .i64 h.1) λi=>opt (bS h.2) λC=>callK (ρ.call 17 [LV.cv (CV.sl t)] r) (λu v=>opt (cR u) λw=>callK (ρ.call 22 [LV.cv (CV.sl w)] v) (λx y=>opt (b9 x) λz=>opt (bC z) λj=>opt (cf j.1) λk=>opt (bC j.2) λl=>opt (bI .i64 l.1) λm=>opt (bS l.2) λD=>callK (ρ.call 32 [bv e] y) (λA c=>opt (bI .i64 A) λB=>cond (decide (p<B)) (cond (decide (i=0)) (cond (decide (m=0)) (bB (small (List.length ([91]:List UInt8)+a.length)) (bB (small (List.length (([91]:List UInt8)++a)+List.length ([91,65]:List UInt8))) (bB (small (List.length ((([91]:List UInt8)++a)++[91,65])+b.length)) (bB (small (List.length (((([91]:List UInt8)++a)++[91,65])++b)+List.length ([66,93,93]:List UInt8))) (some (pz (decide (k=(((([91]:List UInt8)++a)++[91,65])++b)++[66,93,93])) c)))))) (some (pz false c))) (some (pz false c))) (opt (XM ρ b a i k m c) (kS ρ H7 [] [(6,0)]))) (pX wt)) (pX wt)) (pX wt)) (pX wt)))):=bx
def QY (a b):kS ρ H7 [] [(6,0)] (pz a b)=some (py a b):=bx
def Zt (b c d e f g):(S5 b c d e f).sK ρ g=callK (ρ.call 13 [LV.str f] g) (λm n=>opt (b9 m) λo=>opt (bC o) λh=>opt (cR h.1) λp=>opt (bC h.2) λi=>opt (bI .i64 i.1) λq=>opt (bS i.2) λA=>callK (ρ.call 17 [LV.cv (CV.sl p)] n) (λr s=>opt (cR r) λt=>callK (ρ.call 22 [LV.cv (CV.sl t)] s) (λu a=>opt (b9 u) λv=>opt (bC v) λj=>opt (cf j.1) λw=>opt (bC j.2) λk=>opt (bI .i64 k.1) λx=>opt (bS k.2) λB=>cond (!decide (q=0)) (some (py false a)) (cond (!decide (x=0)) (some (py false a)) (callK (ρ.call 29 [LV.str w] a) (λy l=>opt (cf y) λz=>cond (!decide (z=e)) (some (py false l)) (opt (XL ρ b c d l) (kS ρ H7 [] [(6,0)]))) (pX wq)))) (pX wq)) (pX wq)) (pX wq):=bx
def QX (a b):kS ρ H7 [] [(6,0)] (py a b)=some (l0 a b):=bx
def Zs (c d e f g h b i a):(S4 c d e f g h b i).sK ρ a=cond (!decide (f=0)) (some (l0 false a)) (cond (!decide (h=0)) (some (l0 false a)) (cond (!decide (g=b)) (some (l0 false a)) (opt (XK ρ c d e b i a) (kS ρ H7 [] [(6,0)])))):=bx
def rI (a b):kS ρ H7 [] [(6,0)] (l0 a b)=some (Ff a b):=bx
def aa0 (c h d a b j e k):(XU c h d a b j e).sK ρ k=callK (ρ.call 17 [LV.cv (CV.sl j)] k) (λo p=>opt (cR o) λq=>callK (ρ.call 22 [LV.cv (CV.sl q)] p) (λr s=>opt (b9 r) λt=>opt (bC t) λl=>opt (cf l.1) λf=>opt (bC l.2) λm=>opt (bI .i64 m.1) λg=>opt (bS m.2) λE=>callK (ρ.call 32 [bv c] s) (λu v=>opt (bI .i64 u) λw=>callK (ρ.call 32 [bv h] v) (λx n=>opt (bI .i64 x) λy=>cond (decide (y<w)) (bB (small (List.length ([91,65]:List UInt8)+a.length)) (bB (small (List.length (([91,65]:List UInt8)++a)+List.length ([91,66]:List UInt8))) (bB (small (List.length ((([91,65]:List UInt8)++a)++[91,66])+b.length)) (bB (small (List.length (((([91,65]:List UInt8)++a)++[91,66])++b)+List.length ([67,93,93]:List UInt8))) (bB (small (List.length ([65]:List UInt8)+a.length)) (bB (small (List.length (([65]:List UInt8)++a)+List.length ([40,66]:List UInt8))) (bB (small (List.length ((([65]:List UInt8)++a)++[40,66])+b.length)) (bB (small (List.length (((([65]:List UInt8)++a)++[40,66])++b)+List.length ([67,41]:List UInt8))) (bB (small (List.length ([91,91,65]:List UInt8)+a.length)) (bB (small (List.length (([91,91,65]:List UInt8)++a)+List.length ([66,93]:List UInt8))) (bB (small (List.length ((([91,91,65]:List UInt8)++a)++[66,93])+b.length)) (bB (small (List.length (((([91,91,65]:List UInt8)++a)++[66,93])++b)+List.length ([67,93]:List UInt8))) (bB (small (List.length ([40,65]:List UInt8)+a.length)) (bB (small (List.length (([40,65]:List UInt8)++a)+List.length ([66,41]:List UInt8))) (bB (small (List.length ((([40,65]:List UInt8)++a)++[66,41])+b.length)) (bB (small (List.length (((([40,65]:List UInt8)++a)++[66,41])++b)+List.length ([67]:List UInt8))) (opt (vU ρ c d a e f g ((((([91,91,65]:List UInt8)++a)++[66,93])++b)++[67,93]) ((((([40,65]:List UInt8)++a)++[66,41])++b)++[67]) n) (kS ρ H7 [] [(6,0)])))))))))))))))))) (callK (ρ.call 32 [bv c] n) (λz A=>opt (bI .i64 z) λB=>callK (ρ.call 32 [bv h] A) (λC i=>opt (bI .i64 C) λD=>cond (decide (B=D)) (bB (small (List.length ([91,65]:List UInt8)+a.length)) (bB (small (List.length (([91,65]:List UInt8)++a)+List.length ([91,66]:List UInt8))) (bB (small (List.length ((([91,65]:List UInt8)++a)++[91,66])+b.length)) (bB (small (List.length (((([91,65]:List UInt8)++a)++[91,66])++b)+List.length ([67,93,93]:List UInt8))) (bB (small (List.length ([65]:List UInt8)+a.length)) (bB (small (List.length (([65]:List UInt8)++a)+List.length ([40,66]:List UInt8))) (bB (small (List.length ((([65]:List UInt8)++a)++[40,66])+b.length)) (bB (small (List.length (((([65]:List UInt8)++a)++[40,66])++b)+List.length ([67,41]:List UInt8))) (cond (!decide (c=9)) (bB (small (List.length ([91,91,65]:List UInt8)+a.length)) (bB (small (List.length (([91,91,65]:List UInt8)++a)+List.length ([66,93]:List UInt8))) (bB (small (List.length ((([91,91,65]:List UInt8)++a)++[66,93])+b.length)) (bB (small (List.length (((([91,91,65]:List UInt8)++a)++[66,93])++b)+List.length ([67,93]:List UInt8))) (bB (small (List.length ([40,65]:List UInt8)+a.length)) (bB (small (List.length (([40,65]:List UInt8)++a)+List.length ([66,41]:List UInt8))) (bB (small (List.length ((([40,65]:List UInt8)++a)++[66,41])+b.length)) (bB (small (List.length (((([40,65]:List UInt8)++a)++[66,41])++b)+List.length ([67]:List UInt8))) (opt (vU ρ c d a e f g ((((([91,91,65]:List UInt8)++a)++[66,93])++b)++[67,93]) ((((([40,65]:List UInt8)++a)++[66,41])++b)++[67]) i) (kS ρ H7 [] [(6,0)])))))))))) (opt (vU ρ c d a e f g ((((([91,65]:List UInt8)++a)++[91,66])++b)++[67,93,93]) ((((([65]:List UInt8)++a)++[40,66])++b)++[67,41]) i) (kS ρ H7 [] [(6,0)]))))))))))) (bB (small (List.length ([91,65]:List UInt8)+a.length)) (bB (small (List.length (([91,65]:List UInt8)++a)+List.length ([91,66]:List UInt8))) (bB (small (List.length ((([91,65]:List UInt8)++a)++[91,66])+b.length)) (bB (small (List.length (((([91,65]:List UInt8)++a)++[91,66])++b)+List.length ([67,93,93]:List UInt8))) (bB (small (List.length ([65]:List UInt8)+a.length)) (bB (small (List.length (([65]:List UInt8)++a)+List.length ([40,66]:List UInt8))) (bB (small (List.length ((([65]:List UInt8)++a)++[40,66])+b.length)) (bB (small (List.length (((([65]:List UInt8)++a)++[40,66])++b)+List.length ([67,41]:List UInt8))) (opt (vU ρ c d a e f g ((((([91,65]:List UInt8)++a)++[91,66])++b)++[67,93,93]) ((((([65]:List UInt8)++a)++[40,66])++b)++[67,41]) i) (kS ρ H7 [] [(6,0)]))))))))))) (pX rU)) (pX rU))) (pX rU)) (pX rU)) (pX rU)) (pX rU):=bx
def G6 (a b):kS ρ H7 [] [(6,0)] (Ff a b)=some (Ao a b):=bx
def aaZ (b c e g):(XT b c e).sK ρ g=callK (ρ.call 31 [bv b] g) (λm n=>opt (cf m) λa=>callK (ρ.call 31 [bv c] n) (λo p=>opt (cf o) λd=>bB (small (List.length ([65]:List UInt8)+a.length)) (bB (small (List.length (([65]:List UInt8)++a)+List.length ([66]:List UInt8))) (bB (small (List.length ((([65]:List UInt8)++a)++[66])+d.length)) (bB (small (List.length (((([65]:List UInt8)++a)++[66])++d)+List.length ([67]:List UInt8))) (callK (ρ.call 13 [LV.str ((((([65]:List UInt8)++a)++[66])++d)++[67])] p) (λq r=>opt (b9 q) λs=>opt (bC s) λh=>opt (cR h.1) λi=>opt (bC h.2) λj=>opt (bI .i64 j.1) λf=>opt (bS j.2) λx=>callK (ρ.call 32 [bv b] r) (λt k=>opt (bI .i64 t) λu=>cond (decide (u=5)) (callK (ρ.call 32 [bv c] k) (λv l=>opt (bI .i64 v) λw=>cond (decide (w=5)) (some (Ao (decide (f=7)) l)) (opt (Vq ρ b c e a d i f l) (kS ρ H7 [] [(6,0)]))) (pX uN)) (opt (Vq ρ b c e a d i f k) (kS ρ H7 [] [(6,0)]))) (pX uN)) (pX uN)))))) (pX uN)) (pX uN):=bx
def Uv (a b):kS ρ H7 [] [(6,0)] (Ao a b)=some (uM a b):=bx
def aaY (a b c d):(XS a b c).sK ρ d=callK (ρ.call 30 [bv a,bv 9,bv 24] d) (λg e=>opt (ce g) λh=>cond (!h) (some (uM true e)) (callK (ρ.call 30 [bv b,bv 9,bv 24] e) (λi f=>opt (ce i) λj=>cond (!j) (some (uM true f)) (opt (Z2 ρ a b c f) (kS ρ H7 [] [(6,0)]))) (pX NE))) (pX NE):=bx
def Uu (a b):kB ρ 7 H7 [] (uM a b)=some (.ret (LV.bool a) b):=bx
def nf7 (a b c d):bN E ρ 7 [bv a,bv b,LV.int .u8 c] d=callK (ρ.call 12 [] d) (λf e=>opt (ce f) λg=>cond (!g) (some (.ret (LV.bool false) e)) (opt (Z1 ρ a b c e) (kB ρ 7 H7 []))) pP:=bx
def ad4 (b):bN E ρ 12 [] b=callK (ρ.call 13 [LV.str [97,32,43,32,98,42,99]] b) (λr s=>opt (b9 r) λt=>opt (bC t) λc=>opt (cR c.1) λd=>opt (bC c.2) λe=>opt (bI .i64 e.1) λu=>opt (bS e.2) λZ=>callK (ρ.call 22 [LV.cv (CV.sl d)] s) (λv w=>opt (b9 v) λx=>opt (bC x) λf=>opt (cf f.1) λy=>opt (bC f.2) λg=>opt (bI .i64 g.1) λz=>opt (bS g.2) λaa=>callK (ρ.call 13 [LV.str [120,40,105,44,50,58,110,41,32,46,108,116,46,32,40,49,46,53,44,45,50,41]] w) (λA B=>opt (b9 A) λC=>opt (bC C) λh=>opt (cR h.1) λD=>opt (bC h.2) λi=>opt (bI .i64 i.1) λF=>opt (bS i.2) λab=>callK (ρ.call 16 [LV.cv (CV.sl D)] B) (λG H=>opt (b9 G) λI=>opt (bC I) λj=>opt (cf j.1) λJ=>opt (bC j.2) λk=>opt (bI .i64 k.1) λK=>opt (bS k.2) λac=>callK (ρ.call 13 [LV.str [40,40,65,42,66,41,41,43,40,67,41]] H) (λL M=>opt (b9 L) λN=>opt (bC N) λl=>opt (cR l.1) λO=>opt (bC l.2) λm=>opt (bI .i64 m.1) λP=>opt (bS m.2) λad=>callK (ρ.call 26 [LV.cv (CV.sl O)] M) (λQ R=>opt (b9 Q) λS=>opt (bC S) λn=>opt (cR n.1) λT=>opt (bC n.2) λo=>opt (bI .i64 o.1) λU=>opt (bS o.2) λae=>callK (ρ.call 16 [LV.cv (CV.sl T)] R) (λV a=>opt (b9 V) λW=>opt (bC W) λp=>opt (cf p.1) λX=>opt (bC p.2) λq=>opt (bI .i64 q.1) λY=>opt (bS q.2) λaf=>cond (decide (u=0)) (cond (decide ((d.length:Int)=5)) (cond (decide (z=0)) (cond (decide (y=([91,65,43,91,66,42,67,93,93]:List UInt8))) (cond (decide (F=0)) (cond (decide (K=0)) (cond (decide (J=([88,40,73,44,50,58,78,41,46,76,84,46,40,49,46,53,44,45,50,41]:List UInt8))) (cond (decide (P=0)) (cond (decide (U=0)) (cond (decide (Y=0)) (some (.ret (LV.bool (decide (X=([65,42,66,43,67]:List UInt8)))) a)) (some (.ret (LV.bool false) a))) (some (.ret (LV.bool false) a))) (some (.ret (LV.bool false) a))) (some (.ret (LV.bool false) a))) (some (.ret (LV.bool false) a))) (some (.ret (LV.bool false) a))) (some (.ret (LV.bool false) a))) (some (.ret (LV.bool false) a))) (some (.ret (LV.bool false) a))) (some (.ret (LV.bool false) a))) pP) pP) pP) pP) pP) pP) pP:=bx
def SQ (a:List CV):SegD:=⟨H13,[(2,2),(3,0)],cN 13 15,mS [(4,LV.cv (CV.sl a))] []⟩
def HI (a:List CV)(b:Mu):=(SQ a).seg ρ b
def pw (a:List CV)(b:Int)(c:Mu):St:= .ret (mS [(2,LV.cv (CV.sl a)),(3,bv b)] []) c
def SR (a b:List CV)(c:Int):SegD:=⟨H13,[(2,2),(3,0)],cN 13 63,mS [(4,LV.cv (CV.sl a)),(7,LV.cv (CV.sl b)),(8,bv c)] []⟩
def Py (a b:List CV)(c:Int)(d:Mu):=(SR a b c).seg ρ d
def sy (a:List CV)(b:Int)(c:Mu):St:= .ret (mS [(2,LV.cv (CV.sl a)),(3,bv b)] []) c
def Vs (a:CV)(b:Mu):St:= .panic a (mS [] []) b
def OW (b c d a):(SR b c d).sK ρ a=cond (decide (d<(b.length:Int))) (some (sy [] 7 a)) (some (sy c 0 a)):=bx
def D9 (a b c):kS ρ H13 [] [(2,2),(3,0)] (sy a b c)=some (pw a b c):=bx
def FE (a b):(SQ a).sK ρ b=callK (ρ.call 18 [LV.cv (CV.sl a)] b) (λh c=>opt (b9 h) λi=>opt (bC i) λd=>opt (cR d.1) λj=>opt (bC d.2) λe=>opt (bI .i64 e.1) λk=>opt (bC e.2) λf=>opt (bI .i64 f.1) λg=>opt (bS f.2) λl=>cond (!decide (g=0)) (some (pw [] g c)) (opt (Py ρ a j k c) (kS ρ H13 [] [(2,2),(3,0)]))) (pX Vs):=bx
def xc (a b c):kB ρ 13 H13 [] (pw a b c)=some (.ret (LV.ltup [LV.cv (CV.sl a),bv b]) c):=bx
def QF (a b):bN E ρ 13 [LV.str a] b=callK (ρ.call 51 [LV.str a] b) (λh c=>opt (b9 h) λi=>opt (bC i) λd=>opt (cR d.1) λj=>opt (bC d.2) λe=>opt (bI .i64 e.1) λk=>opt (bC e.2) λf=>opt (bI .i64 f.1) λg=>opt (bS f.2) λl=>cond (!decide (g=0)) (some (.ret (LV.ltup [LV.cv (CV.v (.slice none 0 0)),bv g]) c)) (opt (HI ρ j c) (kB ρ 13 H13 []))) pP:=bx
def Tb (a b:List CV)(c:Int):SegD:=⟨H17,[(3,1)],cN 17 116,mS [(0,LV.cv (CV.sl a)),(3,LV.osl b),(4,bv c)] []⟩
def PI (a b:List CV)(c:Int)(d:Mu):=(Tb a b c).loop ρ d
def VB (a:CV)(b:Mu):St:= .panic a (mS [] []) b
def Cj (a:List CV)(b:Mu):St:= .exit 0 (mS [(3,LV.osl a)] []) b
def O0 (a c b d):(Tb a c b).rK ρ d=cond (decide (b<(a.length:Int))) (opt (dr a b) λi=>xk (LV.cv i) λe p q r=>opt (dr a b) λj=>xk (LV.cv j) λs f t u=>opt (dr a b) λk=>xk (LV.cv k) λv w g x=>opt (dr a b) λl=>xk (LV.cv l) λy z A m=>callK (ρ.call 54 [LV.cv (CV.sl m)] d) (λn o=>opt (cR n) λh=>bB (ef 4 c [CV.agg [bD e,bD f,CV.str g,CV.sl h]]) (PI ρ a (c++[CV.agg [bD e,bD f,CV.str g,CV.sl h]]) (IntKind.wrap .i64 (b+1)) o)) (pX VB)) (some (Cj c d)):=bx
def Q3 (a b):kB ρ 17 H17 [.block 0,.seq (cN 17 15)] (Cj a b)=some (.ret (LV.osl a) b):=bx
def ad5 (a b):bN E ρ 17 [LV.cv (CV.sl a)] b=opt (PI ρ a [] 0 b) (kB ρ 17 H17 [.block 0,.seq (cN 17 15)]):=bx
def SS (a:List CV):SegD:=⟨H18,[(2,2),(3,0),(4,0)],cN 18 7,mS [(0,LV.cv (CV.sl a))] []⟩
def C5 (a:List CV)(b:Mu):=(SS a).seg ρ b
def Tc (a b:List CV)(c d:Int):SegD:=⟨H18,[(0,2)],cN 18 116,mS [(0,LV.cv (CV.sl a)),(15,LV.cv (CV.sl b)),(16,bv c),(17,bv d)] []⟩
def PJ (a b:List CV)(c d:Int)(e:Mu):=(Tc a b c d).loop ρ e
def wv (a:List CV)(b c:Int)(d:Mu):St:= .ret (mS [(2,LV.cv (CV.sl a)),(3,bv b),(4,bv c)] []) d
def VC (a:CV)(b:Mu):St:= .panic a (mS [] []) b
def ww (a:List CV)(b:Mu):St:= .exit 0 (mS [(0,LV.cv (CV.sl a))] []) b
def sA (a:List CV)(b c:Int)(d:Mu):St:= .ret (mS [(2,LV.cv (CV.sl a)),(3,bv b),(4,bv c)] []) d
def NW (a:List CV):SegD:=⟨H18,[(2,2),(3,0),(4,0)],cN 18 31,mS [(0,LV.cv (CV.sl a))] []⟩
def Ij (a:List CV)(b:Mu):=(NW a).seg ρ b
def NX (a:CV)(b:Int)(c:Lam):SegD:=⟨H18,[(2,2),(3,0),(4,0)],cN 18 127,mS [(8,LV.loc 0 0),(9,LV.cv a),(10,bv b)] c true⟩
def C3 (a:CV)(b:Int)(c:Lam)(d:Mu):=(NX a b c).seg ρ d
def qr (a:List CV)(b c:Int)(d:List CV)(e:Int)(f:Mu):St:= .ret (mS [(2,LV.cv (CV.sl a)),(3,bv b),(4,bv c)] [Ob.cells [LV.cv (CV.sl d),bv e]] true) f
def NY (a:CV)(b:Lam):SegD:=⟨H18,[(2,2),(3,0),(4,0)],cN 18 255,mS [(8,LV.loc 0 0),(9,LV.cv a)] b true⟩
def Ik (a:CV)(b:Lam)(c:Mu):=(NY a b).seg ρ c
def NZ (a:CV)(b:Int)(c:List CV)(d:Lam):SegD:=⟨H18,[(2,2),(3,0),(4,0)],cN 18 511,mS [(8,LV.loc 0 0),(9,LV.cv a),(10,bv b),(11,LV.cv (CV.sl c))] d true⟩
def C4 (a:CV)(b:Int)(c:List CV)(d:Lam)(e:Mu):=(NZ a b c d).seg ρ e
def N1 (a:List CV)(b:Bool)(c:Lam):SegD:=⟨H18,[(8,0),(11,2)],cN 18 2045,mS [(8,LV.loc 0 0),(11,LV.cv (CV.sl a)),(51,LV.bool b)] c true⟩
def uF (a:List CV)(b:Bool)(c:Lam)(d:Mu):=(N1 a b c).seg ρ d
def ym (a:List CV)(b c:Int)(d:List CV)(e:Int)(f:Mu):St:= .ret (mS [(2,LV.cv (CV.sl a)),(3,bv b),(4,bv c)] [Ob.cells [LV.cv (CV.sl d),bv e]] true) f
def yn (a b:List CV)(c:Int)(d:Mu):St:= .norm (mS [(8,LV.loc 0 0),(11,LV.cv (CV.sl a))] [Ob.cells [LV.cv (CV.sl b),bv c]] true) d
def qt (a:List CV)(b c:Int)(d:List CV)(e:Int)(f:Mu):St:= .ret (mS [(2,LV.cv (CV.sl a)),(3,bv b),(4,bv c)] [Ob.cells [LV.cv (CV.sl d),bv e]] true) f
def N2 (a:List CV)(b:Lam):SegD:=⟨H18,[(2,2),(3,0),(4,0)],cN 18 1023,mS [(8,LV.loc 0 0),(11,LV.cv (CV.sl a))] b true⟩
def RS (a:List CV)(b:Lam)(c:Mu):=(N2 a b).seg ρ c
def yo (a:List CV)(b c:Int)(d:List CV)(e:Int)(f:Mu):St:= .ret (mS [(2,LV.cv (CV.sl a)),(3,bv b),(4,bv c)] [Ob.cells [LV.cv (CV.sl d),bv e]] true) f
def Sm (a:CV)(b:Lam)(c:Mu):St:= .panic a (mS [] b true) c
def tE (a:List CV)(b c:Int)(d:List CV)(e:Int)(f:Mu):St:= .ret (mS [(2,LV.cv (CV.sl a)),(3,bv b),(4,bv c)] [Ob.cells [LV.cv (CV.sl d),bv e]] true) f
def Sl (a:CV)(b:Lam)(c:Mu):St:= .panic a (mS [] b true) c
def yl (a:List CV)(b c:Int)(d:List CV)(e:Int)(f:Mu):St:= .ret (mS [(2,LV.cv (CV.sl a)),(3,bv b),(4,bv c)] [Ob.cells [LV.cv (CV.sl d),bv e]] true) f
def Sk (a:CV)(b:Lam)(c:Mu):St:= .panic a (mS [] b true) c
def B7 (a:List CV)(b c:Int)(d:List CV)(e:Int)(f:Mu):St:= .ret (mS [(2,LV.cv (CV.sl a)),(3,bv b),(4,bv c)] [Ob.cells [LV.cv (CV.sl d),bv e]] true) f
def O1 (b c d a e):(Tc b c d a).rK ρ e=cond (decide (a<d)) (opt (dr c a) λh=>jo (LV.cv h) λi j k=>callK (ρ.call 55 [LV.cv (CV.agg [bD i,bD j,CV.str k])] e) (λl f=>opt (bI .i64 l) λg=>cond (!decide (g=0)) (some (wv [] 0 g f)) (PJ ρ b c d (IntKind.wrap .i64 (a+1)) f)) (pX VC)) (some (ww b e)):=bx
def Q4 (a b c d):kS ρ H18 [.block 0,.seq (cN 18 15)] [(2,2),(3,0),(4,0)] (wv a b c d)=some (sA a b c d):=bx
def JT (d:List CV)(e:Bool)(a:List CV)(b:Int)(c:Mu):(N1 d e [Ob.cells [LV.cv (CV.sl a),bv b]]).sK ρ c=cond (e) (some (ym [] 0 8 a b c)) (some (yn d a b c)):=bx
def BC (a b c d e f):kS ρ H18 [.seq (cN 18 1023)] [(2,2),(3,0),(4,0)] (ym a b c d e f)=some (qt a b c d e f):=bx
def WM (b c:List CV)(a:Int)(d:Mu):(N2 b [Ob.cells [LV.cv (CV.sl c),bv a]]).sK ρ d=some (yo b a 0 c a d):=bx
def Mp (a b c d e f):kS ρ H18 [] [(2,2),(3,0),(4,0)] (yo a b c d e f)=some (qt a b c d e f):=bx
def Mo (a b c d):kS ρ H18 [.seq (cN 18 1023)] [(2,2),(3,0),(4,0)] (yn a b c d)=opt (RS ρ a [Ob.cells [LV.cv (CV.sl b),bv c]] d) (kS ρ H18 [] [(2,2),(3,0),(4,0)]):=bx
def CM (e:CV)(f:Int)(a b:List CV)(c:Int)(d:Mu):(NZ e f a [Ob.cells [LV.cv (CV.sl b),bv c]]).sK ρ d=cond (!decide (f=0)) (opt (uF ρ a true [Ob.cells [LV.cv (CV.sl b),bv c]] d) (kS ρ H18 [.seq (cN 18 1023)] [(2,2),(3,0),(4,0)])) (callK (ρ.call 58 [LV.cv e] (d++[[Ob.cells [LV.cv (CV.sl b),bv c]]])) (λi j=>opt (dq j) λg=>opt (ce i) λk=>opt (uF ρ a k g.2 g.1) (kS ρ H18 [.seq (cN 18 1023)] [(2,2),(3,0),(4,0)])) (λl m=>opt (dq m) λh=>some (Sm l h.2 h.1))):=bx
def BB (a b c d e f):kS ρ H18 [] [(2,2),(3,0),(4,0)] (qt a b c d e f)=some (tE a b c d e f):=bx
def JS (a:CV)(b:List CV)(c:Int)(d:Mu):(NY a [Ob.cells [LV.cv (CV.sl b),bv c]]).sK ρ d=callK (ρ.call 57 [LV.cv a] (d++[[Ob.cells [LV.cv (CV.sl b),bv c]]])) (λi j=>opt (dq j) λe=>opt (b9 i) λk=>opt (bC k) λf=>opt (cR f.1) λl=>opt (bC f.2) λg=>opt (bI .i64 g.1) λm=>opt (bS g.2) λp=>opt (C4 ρ a m l e.2 e.1) (kS ρ H18 [] [(2,2),(3,0),(4,0)])) (λn o=>opt (dq o) λh=>some (Sl n h.2 h.1)):=bx
def Mn (a b c d e f):kS ρ H18 [] [(2,2),(3,0),(4,0)] (tE a b c d e f)=some (qr a b c d e f):=bx
def JR (e:CV)(a:Int)(b:List CV)(c:Int)(d:Mu):(NX e a [Ob.cells [LV.cv (CV.sl b),bv c]]).sK ρ d=cond (!decide (a=0)) (some (qr [] 0 a b c d)) (opt (Ik ρ e [Ob.cells [LV.cv (CV.sl b),bv c]] d) (kS ρ H18 [] [(2,2),(3,0),(4,0)])):=bx
def BA (a b c d e f):kS ρ H18 [] [(2,2),(3,0),(4,0)] (qr a b c d e f)=some (yl a b c d e f):=bx
def JQ (b a):(NW b).sK ρ a=callK (ρ.call 56 [LV.cv (CV.ref (List.length a) 0 0)] (a++[[Ob.cells [LV.cv (CV.sl b),bv 0]]])) (λg h=>opt (dq h) λc=>opt (b9 g) λi=>opt (bC i) λd=>opt (cx d.1) λj=>opt (bC d.2) λe=>opt (bI .i64 e.1) λk=>opt (bS e.2) λn=>opt (C3 ρ j k c.2 c.1) (kS ρ H18 [] [(2,2),(3,0),(4,0)])) (λl m=>opt (dq m) λf=>some (Sk l f.2 f.1)):=bx
def Mm (a b c d e f):kS ρ H18 [] [(2,2),(3,0),(4,0)] (yl a b c d e f)=some (B7 a b c d e f):=bx
def Ec (a b):kS ρ H18 [.block 0,.seq (cN 18 15)] [(2,2),(3,0),(4,0)] (ww a b)=cond (decide ((a.length:Int)=0)) (some (sA [] 0 17 b)) (opt (Ij ρ a b) (kS ρ H18 [] [(2,2),(3,0),(4,0)])):=bx
def Zj (a b):(SS a).sK ρ b=opt (PJ ρ a a (a.length:Int) 0 b) (kS ρ H18 [.block 0,.seq (cN 18 15)] [(2,2),(3,0),(4,0)]):=bx
def Ea (a b c d):kB ρ 18 H18 [] (sA a b c d)=some (.ret (LV.ltup [LV.cv (CV.sl a),bv b,bv c]) d):=bx
def QG (a b c e f d):kB ρ 18 H18 [] (B7 a b c e f d)=bB (fj (List.length d) (LV.ltup [LV.cv (CV.sl a),bv b,bv c])) (some (.ret (LV.ltup [LV.cv (CV.sl a),bv b,bv c]) d)):=bx
def aaT (a b):bN E ρ 18 [LV.cv (CV.sl a)] b=cond (decide (300<(a.length:Int))) (some (.ret (LV.ltup [LV.cv (CV.v (.slice none 0 0)),bv 0,bv 8]) b)) (opt (C5 ρ a b) (kB ρ 18 H18 [])):=bx
def ad6 (a b):bN E ρ 22 [LV.cv (CV.sl a)] b=callK (ρ.call 53 [LV.cv (CV.sl a),LV.bool true] b) (λe f=>opt (b9 e) λg=>opt (bC g) λc=>opt (cf c.1) λh=>opt (bC c.2) λd=>opt (bI .i64 d.1) λi=>opt (bS d.2) λj=>some (.ret (LV.ltup [LV.str h,bv i]) f)) pP:=bx
def Td (a b:List UInt8)(c:Int):SegD:=⟨H29,[(3,0)],cN 29 116,mS [(0,LV.str a),(3,LV.str b),(4,bv c)] []⟩
def Da (a b:List UInt8)(c:Int)(d:Mu):=(Td a b c).loop ρ d
def Ck (a:List UInt8)(b:Mu):St:= .exit 0 (mS [(3,LV.str a)] []) b
def O2 (b c a d):(Td b c a).rK ρ d=cond (decide (a<(b.length:Int))) (opt (km b a) λf=>cond (!decide ((f.toNat:Int)=40)) (opt (km b a) λg=>cond (!decide ((g.toNat:Int)=41)) (opt (ku b a (IntKind.wrap .i64 (a+1))) λe=>bB (small (c.length+e.length)) (Da ρ b (c++e) (IntKind.wrap .i64 (a+1)) d)) (Da ρ b c (IntKind.wrap .i64 (a+1)) d)) (Da ρ b c (IntKind.wrap .i64 (a+1)) d)) (some (Ck c d)):=bx
def Q5 (a b):kB ρ 29 H29 [.block 0,.seq (cN 29 15)] (Ck a b)=some (.ret (LV.str a) b):=bx
def ad7 (a b):bN E ρ 29 [LV.str a] b=opt (Da ρ a ([]:List UInt8) 0 b) (kB ρ 29 H29 [.block 0,.seq (cN 29 15)]):=bx
def ad8 (a c d b):bN E ρ 30 [bv a,bv c,bv d] b=cond (decide (a<c)) (some (.ret (LV.bool false) b)) (some (.ret (LV.bool (!(decide (d<a)))) b)):=bx
def ad9 (a b):bN E ρ 31 [bv a] b=opt (dr [CV.str [43],CV.str [45],CV.str [46,78,79,84,46],CV.str [42,42],CV.str [42],CV.str [47],CV.str [43],CV.str [45],CV.str [47,47],CV.str [46,76,84,46],CV.str [46,76,69,46],CV.str [46,69,81,46],CV.str [46,78,69,46],CV.str [46,71,69,46],CV.str [46,71,84,46],CV.str [46,65,78,68,46],CV.str [46,79,82,46],CV.str [46,69,81,86,46],CV.str [46,78,69,81,86,46]] (IntKind.wrap .i64 (a-6))) λc=>opt (cf (LV.cv c)) λd=>some (.ret (LV.str d) b):=bx
def ST (a b:Int)(c:Bool):SegD:=⟨H32,[(0,0)],cN 32 215,mS [(0,bv a),(3,bv b),(6,LV.bool c)] []⟩
def HJ (a b:Int)(c:Bool)(d:Mu):=(ST a b c).seg ρ d
def sB (a:Int)(b:Mu):St:= .ret (mS [(2,bv a)] []) b
def Of (a b:Int)(c:Bool):SegD:=⟨H32,[(0,0)],cN 32 863,mS [(0,bv a),(3,bv b),(9,LV.bool c)] []⟩
def uI (a b:Int)(c:Bool)(d:Mu):=(Of a b c).seg ρ d
def jJ (a:Int)(b:Mu):St:= .ret (mS [(2,bv a)] []) b
def tH (a:Int)(b:Mu):St:= .norm (mS [(0,bv a)] []) b
def wm (a:Int)(b:Mu):St:= .norm (mS [(0,bv a)] []) b
def WY (c b d a):(Of c b d).sK ρ a=cond (d) (some (jJ 7 a)) (cond (decide (b=14)) (some (jJ 6 a)) (cond (decide (b=8)) (some (jJ 4 a)) (cond (decide (b=21)) (some (jJ 3 a)) (cond (decide (b=22)) (some (jJ 2 a)) (cond (decide (b=23)) (cond (decide (b=23)) (some (jJ 1 a)) (some (tH c a))) (cond (decide (b=24)) (some (jJ 1 a)) (some (tH c a)))))))):=bx
def MG (a b):kS ρ H32 [] [(0,0)] (jJ a b)=some (sB a b):=bx
def MH (a b):kS ρ H32 [] [(0,0)] (tH a b)=some (wm a b):=bx
def Zk (c a d b):(ST c a d).sK ρ b=cond (d) (some (sB 8 b)) (cond (decide (a=6)) (opt (uI ρ c a (decide (a=6)) b) (kS ρ H32 [] [(0,0)])) (cond (decide (a=7)) (opt (uI ρ c a (decide (a=7)) b) (kS ρ H32 [] [(0,0)])) (cond (decide (a=12)) (opt (uI ρ c a (decide (a=12)) b) (kS ρ H32 [] [(0,0)])) (opt (uI ρ c a (decide (a=13)) b) (kS ρ H32 [] [(0,0)]))))):=bx
def QH (a b):kB ρ 32 H32 [.block 0,.seq (cN 32 7)] (sB a b)=some (.ret (bv a) b):=bx
def QI (a b):kB ρ 32 H32 [.block 0,.seq (cN 32 7)] (wm a b)=callK (ρ.call 30 [bv a,bv 15,bv 20] b) (λd c=>opt (ce d) λe=>cond (e) (some (.ret (bv 5) c)) (some (.ret (bv 10) c))) pP:=bx
def aea (a b):bN E ρ 32 [bv a] b=cond (decide (a=9)) (some (.ret (bv 9) b)) (cond (decide (a=10)) (opt (HJ ρ a a (decide (a=10)) b) (kB ρ 32 H32 [.block 0,.seq (cN 32 7)])) (opt (HJ ρ a a (decide (a=11)) b) (kB ρ 32 H32 [.block 0,.seq (cN 32 7)]))):=bx
def SU (a:List CV):SegD:=⟨H33,[(2,0),(3,0)],cN 33 7,mS [(0,LV.cv (CV.sl a))] []⟩
def XD (a:List CV)(b:Mu):=(SU a).seg ρ b
def Te (a b c d:List CV)(e f:Int):SegD:=⟨H33,[(0,2),(4,1)],cN 33 500,mS [(0,LV.cv (CV.sl a)),(4,LV.osl b),(5,LV.osl c),(23,LV.cv (CV.sl d)),(24,bv e),(25,bv f)] []⟩
def PK (a b c d:List CV)(e f:Int)(g:Mu):=(Te a b c d e f).loop ρ g
def wx (a b:Int)(c:Mu):St:= .ret (mS [(2,bv a),(3,bv b)] []) c
def Og (a b c:List CV)(d e:Int)(f:List CV)(g h i j:Int)(k:List UInt8)(l:List CV):SegD:=⟨H33,[(0,2),(4,1),(5,1),(23,2),(24,0),(25,0)],cN 33 64103,mS [(0,LV.cv (CV.sl a)),(4,LV.osl b),(5,LV.osl c),(6,bv d),(7,LV.loc 0 0),(8,bv e),(23,LV.cv (CV.sl f)),(24,bv g),(25,bv h)] [Ob.cells [bv i,bv j,LV.str k,LV.cv (CV.sl l)]]⟩
def RZ (a b c:List CV)(d e:Int)(f:List CV)(g h i j:Int)(k:List UInt8)(l:List CV)(m:Mu):=(Og a b c d e f g h i j k l).seg ρ m
def OF (a b c:List CV)(d e:Int)(f:List CV)(g h:Int)(i:List CV)(j k l m:Int)(n:List UInt8)(o:List CV)(p q:Int)(r:List UInt8)(s:List CV):SegD:=⟨H33,[(0,2),(4,1),(5,1),(6,0),(8,0),(10,0),(23,2),(24,0),(25,0)],cN 33 2051316,mS [(0,LV.cv (CV.sl a)),(4,LV.osl b),(5,LV.osl c),(6,bv d),(7,LV.loc 0 0),(8,bv e),(10,LV.loc 1 0),(23,LV.cv (CV.sl f)),(24,bv g),(25,bv h),(50,LV.cv (CV.sl i)),(51,bv j),(52,bv k)] [Ob.cells [bv l,bv m,LV.str n,LV.cv (CV.sl o)],Ob.cells [bv p,bv q,LV.str r,LV.osl s]]⟩
def Db (a b c:List CV)(d e:Int)(f:List CV)(g h:Int)(i:List CV)(j k l m:Int)(n:List UInt8)(o:List CV)(p q:Int)(r:List UInt8)(s:List CV)(t:Mu):=(OF a b c d e f g h i j k l m n o p q r s).loop ρ t
def yU (a b c:List CV)(d e:Int)(f:List CV)(g h i j:Int)(k:List UInt8)(l:List CV)(m:Mu):St:= .exit 3 (mS [(0,LV.cv (CV.sl a)),(4,LV.osl b),(5,LV.osl c),(6,bv d),(8,bv e),(10,LV.loc 0 0),(23,LV.cv (CV.sl f)),(24,bv g),(25,bv h)] [Ob.cells [bv i,bv j,LV.str k,LV.osl l]]) m
def yz (a b:Int)(c:Mu):St:= .ret (mS [(2,bv a),(3,bv b)] []) c
def Oh (a b c:List CV)(d e f:Int)(g:List UInt8)(h i:List CV)(j k:Int):SegD:=⟨H33,[(0,2),(4,1),(5,1),(23,2),(24,0),(25,0)],cN 33 512831,mS [(0,LV.cv (CV.sl a)),(4,LV.osl b),(5,LV.osl c),(8,bv d),(10,LV.cv (CV.view [bD e,bD f,CV.str g,CV.sl h])),(23,LV.cv (CV.sl i)),(24,bv j),(25,bv k)] []⟩
def R0 (a b c:List CV)(d e f:Int)(g:List UInt8)(h i:List CV)(j k:Int)(l:Mu):=(Oh a b c d e f g h i j k).seg ρ l
def yB (a b c d:List CV)(e f:Int)(g:Mu):St:= .norm (mS [(0,LV.cv (CV.sl a)),(4,LV.osl b),(5,LV.osl c),(23,LV.cv (CV.sl d)),(24,bv e),(25,bv f)] []) g
def yA (a b c d:List CV)(e f:Int)(g:Mu):St:= .norm (mS [(0,LV.cv (CV.sl a)),(4,LV.osl b),(5,LV.osl c),(23,LV.cv (CV.sl d)),(24,bv e),(25,bv f)] []) g
def Sp (a:CV)(b:Mu):St:= .panic a (mS [] []) b
def VD (a:CV)(b:Mu):St:= .panic a (mS [] []) b
def Cl (a b:List CV)(c:Mu):St:= .exit 1 (mS [(0,LV.cv (CV.sl a)),(4,LV.osl b)] []) c
def px (a b:Int)(c:Mu):St:= .ret (mS [(2,bv a),(3,bv b)] []) c
def J8 (e f c g h i j k l m d r s t u n o p a q):(OF e f c g h i j k l m d r s t u n o p a).rK ρ q=cond (decide (d<m)) (opt (dr l d) λx=>opt (bI .i64 (LV.cv x)) λw=>cond (decide (w=(-1))) (bB (ef 1 a [CV.v (.pointer none)]) (Db ρ e f c g h i j k l m (IntKind.wrap .i64 (d+1)) r s t u n o p (a++[CV.v (.pointer none)]) q)) (opt (dr c w) λb=>bB (cY b) (bB (cY b) (bB (noB b&&true) (bB (gw [b]&&ef 1 a [b]) (Db ρ e f c g h i j k l m (IntKind.wrap .i64 (d+1)) r s t u n o p (a++[b]) q)))))) (some (yU e f c g h i j k n o p a q)):=bx
def W1 (h a b c d e f g i j k l):(Oh h a b c d e f g i j k).sK ρ l=bB (ef 1 a [bD c]) (bB (ef 1 b [CV.view [bD d,bD e,CV.str f,CV.sl g]]) (some (yB h (a++[bD c]) (b++[CV.view [bD d,bD e,CV.str f,CV.sl g]]) i j k l))):=bx
def MK (a b c d e f g):kS ρ H33 [] [(0,2),(4,1),(5,1),(23,2),(24,0),(25,0)] (yB a b c d e f g)=some (yA a b c d e f g):=bx
def M8 (e f g h i j k l a b c d m):kS ρ H33 [.block 3,.seq (cN 33 256415)] [(0,2),(4,1),(5,1),(23,2),(24,0),(25,0)] (yU e f g h i j k l a b c d m)=callK (ρ.call 68 [LV.cv (CV.view [bD a,bD b,CV.str c,CV.sl d])] m) (λp n=>opt (bI .i64 p) λo=>cond (!decide (o=0)) (some (yz h o n)) (opt (R0 ρ e f g i a b c d j k l n) (kS ρ H33 [] [(0,2),(4,1),(5,1),(23,2),(24,0),(25,0)]))) (pX Sp):=bx
def WZ (e f g h i j k l b c d a m):(Og e f g h i j k l b c d a).sK ρ m=opt (Db ρ e f g h i j k l a (a.length:Int) 0 b c d a b c d [] m) (kS ρ H33 [.block 3,.seq (cN 33 256415)] [(0,2),(4,1),(5,1),(23,2),(24,0),(25,0)]):=bx
def MI (a b c):kR ρ H33 [.block 2,.seq (cN 33 4007)] [(0,2),(4,1)] (cN 33 500) (yz a b c)=some (wx a b c):=bx
def MJ (a b c d e f g):kR ρ H33 [.block 2,.seq (cN 33 4007)] [(0,2),(4,1)] (cN 33 500) (yA a b c d e f g)=PK ρ a b c d e (IntKind.wrap .i64 (f+1)) g:=bx
def O3 (b c g d e a f):(Te b c g d e a).rK ρ f=cond (decide (a<e)) (opt (dr d a) λl=>xk (LV.cv l) λm n o p=>callK (ρ.call 67 [LV.cv (CV.sl b),bv a,LV.cv (CV.sl c)] f) (λq h=>opt (b9 q) λr=>opt (bC r) λi=>opt (bI .i64 i.1) λs=>opt (bC i.2) λj=>opt (bI .i64 j.1) λk=>opt (bS j.2) λt=>cond (!decide (k=0)) (some (wx a k h)) (opt (RZ ρ b c g a s d e a m n o p h) (kR ρ H33 [.block 2,.seq (cN 33 4007)] [(0,2),(4,1)] (cN 33 500)))) (pX VD)) (some (Cl b c f)):=bx
def Q6 (a b c):kS ρ H33 [.block 1,.seq (cN 33 63)] [(2,0),(3,0)] (wx a b c)=some (px a b c):=bx
def Q7 (a c b):kS ρ H33 [.block 1,.seq (cN 33 63)] [(2,0),(3,0)] (Cl a c b)=opt (dr a (IntKind.wrap .i64 ((a.length:Int) -1))) λd=>xk (LV.cv d) λe h i j=>cond (decide (e=3)) (some (px (IntKind.wrap .i64 ((a.length:Int) -1)) 21 b)) (opt (dr c (IntKind.wrap .i64 ((a.length:Int) -1))) λf=>opt (bI .i64 (LV.cv f)) λg=>cond (!decide (g=0)) (some (px (IntKind.wrap .i64 ((a.length:Int) -1)) 21 b)) (some (px 0 0 b))):=bx
def Zl (a b):(SU a).sK ρ b=opt (PK ρ a [] [] a (a.length:Int) 0 b) (kS ρ H33 [.block 1,.seq (cN 33 63)] [(2,0),(3,0)]):=bx
def QJ (a b c):kB ρ 33 H33 [] (px a b c)=some (.ret (LV.ltup [bv a,bv b]) c):=bx
def aeb (a b):bN E ρ 33 [LV.cv (CV.sl a)] b=cond (decide ((a.length:Int)=0)) (some (.ret (LV.ltup [bv 0,bv 17]) b)) (cond (decide (120<(a.length:Int))) (some (.ret (LV.ltup [bv 0,bv 8]) b)) (opt (XD ρ a b) (kB ρ 33 H33 []))):=bx
def aec (a b):bN E ρ 51 [LV.str a] b=callK (ρ.call 85 [LV.str a,LV.bool false] b) (λf g=>opt (b9 f) λh=>opt (bC h) λc=>opt (cR c.1) λi=>opt (bC c.2) λd=>opt (bI .i64 d.1) λj=>opt (bC d.2) λe=>opt (bI .i64 e.1) λk=>opt (bS e.2) λl=>some (.ret (LV.ltup [LV.cv (CV.sl i),bv j,bv k]) g)) pP:=bx
def SV (a:Bool)(b:CV):SegD:=⟨H53,[(4,0),(5,0)],cN 53 15,mS [(1,LV.bool a),(6,LV.cv b)] []⟩
def XE (a:Bool)(b:CV)(c:Mu):=(SV a b).seg ρ c
def SW (a:Lam):SegD:=⟨H53,[(4,0),(5,0)],cN 53 63,mS [(8,LV.tloc 0 130 2)] a true⟩
def XF (a:Lam)(b:Mu):=(SW a).seg ρ b
def SX (a:Bool)(b:Lam):SegD:=⟨H53,[(8,0)],cN 53 253,mS [(8,LV.tloc 0 130 2),(21,LV.bool a)] b true⟩
def Pz (a:Bool)(b:Lam)(c:Mu):=(SX a b).seg ρ c
def Cc (a:List UInt8)(b:Int)(c:CV)(d:List CV)(e:Mu):St:= .ret (mS [(4,LV.str a),(5,bv b)] [Ob.cells [LV.cv c,LV.osl d]] true) e
def Cd (a:CV)(b:List CV)(c:Mu):St:= .norm (mS [(8,LV.tloc 0 130 2)] [Ob.cells [LV.cv a,LV.osl b]] true) c
def Ca (a:List UInt8)(b:Int)(c:CV)(d:List CV)(e:Mu):St:= .ret (mS [(4,LV.str a),(5,bv b)] [Ob.cells [LV.cv c,LV.osl d]] true) e
def SY (a:Lam):SegD:=⟨H53,[(4,0),(5,0)],cN 53 127,mS [(8,LV.tloc 0 130 2)] a true⟩
def XG (a:Lam)(b:Mu):=(SY a).seg ρ b
def Ce (a:List UInt8)(b:Int)(c:Lam)(d:Mu):St:= .ret (mS [(4,LV.str a),(5,bv b)] c true) d
def Vv (a:CV)(b:Lam)(c:Mu):St:= .panic a (mS [] b true) c
def Cb (a:List UInt8)(b:Int)(c:Lam)(d:Mu):St:= .ret (mS [(4,LV.str a),(5,bv b)] c true) d
def Vu (a:CV)(b:Lam)(c:Mu):St:= .panic a (mS [] b true) c
def B8 (a:List UInt8)(b:Int)(c:CV)(d:List CV)(e:Mu):St:= .ret (mS [(4,LV.str a),(5,bv b)] [Ob.cells [LV.cv c,LV.osl d]] true) e
def B9 (a:List UInt8)(b:Int)(c:Lam)(d:Mu):St:= .ret (mS [(4,LV.str a),(5,bv b)] c true) d
def Vt (a:CV)(b:Lam)(c:Mu):St:= .panic a (mS [] b true) c
def OX (d:Bool)(a:CV)(b:List CV)(c:Mu):(SX d [Ob.cells [LV.cv a,LV.osl b]]).sK ρ c=cond (d) (some (Cc ([]:List UInt8) 8 a b c)) (some (Cd a b c)):=bx
def QO (a b c d e):kS ρ H53 [.seq (cN 53 127)] [(4,0),(5,0)] (Cc a b c d e)=some (Ca a b c d e):=bx
def Zo (b:CV)(c:List CV)(a:Mu):(SY [Ob.cells [LV.cv b,LV.osl c]]).sK ρ a=callK (ρ.call 89 [LV.cv (CV.tref (List.length a) 0 130 2)] (a++[[Ob.cells [LV.cv b,LV.osl c]]])) (λf g=>opt (dq g) λd=>opt (cf f) λh=>some (Ce h 0 d.2 d.1)) (λi j=>opt (dq j) λe=>some (Vv i e.2 e.1)):=bx
def QQ (a b c d):kS ρ H53 [] [(4,0),(5,0)] (Ce a b c d)=some (Cb a b c d):=bx
def QP (a b c):kS ρ H53 [.seq (cN 53 127)] [(4,0),(5,0)] (Cd a b c)=opt (XG ρ [Ob.cells [LV.cv a,LV.osl b]] c) (kS ρ H53 [] [(4,0),(5,0)]):=bx
def Zn (b:CV)(c:List CV)(a:Mu):(SW [Ob.cells [LV.cv b,LV.osl c]]).sK ρ a=callK (ρ.call 88 [LV.cv (CV.tref (List.length a) 0 130 2)] (a++[[Ob.cells [LV.cv b,LV.osl c]]])) (λf g=>opt (dq g) λd=>opt (bI .i64 f) λh=>kE [(0,[3,1])] d.2 λi=>opt (Pz ρ (decide (1320<h)) i d.1) (kS ρ H53 [.seq (cN 53 127)] [(4,0),(5,0)])) (λj k=>opt (dq k) λe=>some (Vu j e.2 e.1)):=bx
def QM (a b c d e):kS ρ H53 [] [(4,0),(5,0)] (Ca a b c d e)=some (B8 a b c d e):=bx
def QN (a b c d):kS ρ H53 [] [(4,0),(5,0)] (Cb a b c d)=some (B9 a b c d):=bx
def Zm (b c a):(SV b c).sK ρ a=callK (ρ.call 87 [LV.cv c,LV.cv (CV.tref (List.length a) 0 130 2),LV.bool b] (a++[[Ob.cells [LV.cv (CV.v (.pointer none)),LV.cv (CV.v (.slice none 0 0))]]])) (λf g=>opt (dq g) λd=>opt (b9 f) λh=>opt (bS h) λl=>kE [(0,[3,1])] d.2 λi=>opt (XF ρ i d.1) (kS ρ H53 [] [(4,0),(5,0)])) (λj k=>opt (dq k) λe=>some (Vt j e.2 e.1)):=bx
def QK (a b d e c):kB ρ 53 H53 [] (B8 a b d e c)=some (.ret (LV.ltup [LV.str a,bv b]) c):=bx
def QL (a b d c):kB ρ 53 H53 [] (B9 a b d c)=some (.ret (LV.ltup [LV.str a,bv b]) c):=bx
def aaU (a b c):bN E ρ 53 [LV.cv (CV.sl a),LV.bool b] c=callK (ρ.call 64 [LV.cv (CV.sl a)] c) (λh d=>opt (b9 h) λi=>opt (bC i) λe=>opt (cx e.1) λj=>opt (bC e.2) λf=>opt (bI .i64 f.1) λg=>opt (bS f.2) λk=>cond (!decide (g=0)) (some (.ret (LV.ltup [LV.str [],bv g]) d)) (opt (XE ρ b j d) (kB ρ 53 H53 []))) pP:=bx
def aed (a b):bN E ρ 54 [LV.cv (CV.sl a)] b=bB (decide (0<=(a.length:Int))&&decide ((a.length:Int)<=1000000000)) (bB (ee 1 a&&(Nat.ble (a.length) (Int.toNat (a.length:Int))&&Nat.ble (0+a.length*1) (List.length (kc (Int.toNat (a.length:Int)) [bD 0])))) (bB (fD (dh (kc (Int.toNat (a.length:Int)) [bD 0]) 0 (List.flatMap CV.cells a))&&Nat.ble ((Int.toNat (a.length:Int))*1) (List.length (dh (kc (Int.toNat (a.length:Int)) [bD 0]) 0 (List.flatMap CV.cells a)))) (some (.ret (LV.cv (CV.sl (ko false 1 (Int.toNat (a.length:Int)) (dh (kc (Int.toNat (a.length:Int)) [bD 0]) 0 (List.flatMap CV.cells a))))) b)))):=bx
def SZ (a:Bool)(b c:Int)(d:List UInt8):SegD:=⟨H55,[],cN 55 215,mS [(1,LV.loc 0 0),(12,LV.bool a)] [Ob.cells [bv b,bv c,LV.str d]]⟩
def C7 (a:Bool)(b c:Int)(d:List UInt8)(e:Mu):=(SZ a b c d).seg ρ e
def wn (a:Int)(b:Mu):St:= .ret (mS [(2,bv a)] []) b
def S0 (a b:Int)(c:List UInt8):SegD:=⟨H55,[],cN 55 861,mS [(1,LV.loc 0 0)] [Ob.cells [bv a,bv b,LV.str c]]⟩
def XH (a b:Int)(c:List UInt8)(d:Mu):=(S0 a b c).seg ρ d
def wo (a:Int)(b:Mu):St:= .ret (mS [(2,bv a)] []) b
def Oi (a b:Int)(c:List UInt8):SegD:=⟨H55,[],cN 55 1723,mS [(1,LV.loc 0 0)] [Ob.cells [bv a,bv b,LV.str c]]⟩
def Ip (a b:Int)(c:List UInt8)(d:Mu):=(Oi a b c).seg ρ d
def nV (a:Int)(b:Mu):St:= .ret (mS [(2,bv a)] []) b
def Vw (a:CV)(b:Mu):St:= .panic a (mS [] []) b
def Cf (a:Mu):St:= .norm (mS [] []) a
def W4 (c f a b):(Oi c f a).sK ρ b=cond (decide (c=2)) (callK (ρ.call 92 [] b) (λg h=>opt (cR g) λi=>callK (ρ.call 82 [LV.cv (CV.sl i),LV.str a] h) (λj d=>opt (ce j) λk=>cond (!k) (callK (ρ.call 93 [] d) (λl m=>opt (cR l) λn=>callK (ρ.call 82 [LV.cv (CV.sl n),LV.str a] m) (λo e=>opt (ce o) λp=>cond (!p) (some (nV 7 e)) (some (nV 0 e))) pN) pN) (some (nV 0 d))) pN) pN) (some (nV 0 b)):=bx
def ML (a b):kS ρ H55 [] [] (nV a b)=some (wo a b):=bx
def Zp (a c b d):(S0 a c b).sK ρ d=cond (decide (a=0)) (callK (ρ.call 91 [LV.str b] d) (λf e=>opt (ce f) λg=>cond (!g) (some (wo 4 e)) (opt (Ip ρ a c b e) (kS ρ H55 [] []))) (pX Vw)) (opt (Ip ρ a c b d) (kS ρ H55 [] [])):=bx
def QU (a b):kS ρ H55 [] [] (wo a b)=some (wn a b):=bx
def OY (c d b e a):(SZ c d b e).sK ρ a=cond (c) (cond (!decide (b=0)) (some (wn 3 a)) (opt (XH ρ d b e a) (kS ρ H55 [] []))) (some (Cf a)):=bx
def QS (a b):kB ρ 55 H55 [.block 0,.seq (cN 55 7)] (wn a b)=some (.ret (bv a) b):=bx
def QT (a):kB ρ 55 H55 [.block 0,.seq (cN 55 7)] (Cf a)=some (.ret (bv 15) a):=bx
def aee (a b c d):bN E ρ 55 [LV.cv (CV.agg [bD a,bD b,CV.str c])] d=cond (decide (a=1)) (callK (ρ.call 90 [bv b,LV.str c] d) (λe f=>opt (bI .i64 e) λg=>some (.ret (bv g) f)) pP) (cond (decide (a=0)) (opt (C7 ρ (decide (a=0)) a b c d) (kB ρ 55 H55 [.block 0,.seq (cN 55 7)])) (opt (C7 ρ (decide (a=2)) a b c d) (kB ρ 55 H55 [.block 0,.seq (cN 55 7)]))):=bx
def aef (g h i):bN E ρ 56 [LV.cv (CV.ref g h 0)] i=callK (ρ.call 95 [LV.cv (CV.ref g h 0)] i) (λk c=>opt (cx k) λj=>bB (cY j) (opt (ρ.dcall 94 none [LV.cv (CV.ref (List.length c) 0 0),LV.cv (CV.ref (List.length c) 1 0)] (c++[[Ob.cells [LV.cv j],Ob.cells [bv 0]]])) λl=>opt (dq l) λa=>opt (opt (cD E.P 91 (bQ a.2 0) 0) λm=>opt (opt (cD E.P 25 (bQ a.2 1) 0) λn=>some [n]) λo=>some (m::o)) λd=>bB (mJ (eB d)) (bB (fj (List.length a.1) (eB d)) (some (.ret (eB d) a.1))))) (λp e=>opt (ρ.dcall 94 (some p) [LV.cv (CV.ref (List.length e) 0 0),LV.cv (CV.ref (List.length e) 1 0)] (e++[[Ob.cells [LV.cv (CV.v (.pointer none))],Ob.cells [bv 0]]])) λq=>opt (dq q) λb=>opt (opt (cD E.P 91 (bQ b.2 0) 0) λr=>opt (opt (cD E.P 25 (bQ b.2 1) 0) λs=>some [s]) λt=>some (r::t)) λf=>bB (mJ (eB f)) (bB (fj (List.length b.1) (eB f)) (some (.ret (eB f) b.1)))):=bx
def aeg (a b c d e):bN E ρ 57 [LV.cv (CV.view [bD a,bD b,CV.str c,CV.sl d])] e=callK (ρ.call 96 [LV.cv (CV.view [bD a,bD b,CV.str c,CV.sl d])] e) (λg f=>opt (bI .i64 g) λh=>cond (decide (120<h)) (some (.ret (LV.ltup [LV.cv (CV.v (.slice none 0 0)),bv 8]) f)) (callK (ρ.call 73 [LV.cv (CV.view [bD a,bD b,CV.str c,CV.sl d]),LV.cv (CV.v (.slice none 0 0))] f) (λi j=>opt (cR i) λk=>some (.ret (LV.ltup [LV.cv (CV.sl k),bv 0]) j)) pP)) pP:=bx
def aeh (c d e a b):bN E ρ 58 [LV.cv (CV.view [bD c,bD d,CV.str e,CV.sl a])] b=cond (decide (7<(a.length:Int))) (some (.ret (LV.bool true) b)) (callK (ρ.call 97 [LV.cv (CV.sl a),LV.cv (CV.clo 98 [])] b) (λf g=>opt (ce f) λh=>some (.ret (LV.bool h) g)) pP):=bx
def WA (a b):bN E ρ 64 [LV.cv (CV.sl a)] b=callK (ρ.call 33 [LV.cv (CV.sl a)] b) (λg c=>opt (b9 g) λh=>opt (bC h) λd=>opt (bI .i64 d.1) λl=>opt (bC d.2) λe=>opt (bI .i64 e.1) λf=>opt (bS e.2) λm=>cond (!decide (f=0)) (some (.ret (LV.ltup [LV.cv (CV.v (.pointer none)),bv f]) c)) (callK (ρ.call 114 [LV.cv (CV.sl a)] c) (λi j=>opt (cx i) λk=>some (.ret (LV.ltup [LV.cv k,bv 0]) j)) pP)) pP:=bx
def S1 (a:Int)(b:List CV)(c d:Int)(e:List UInt8)(f:List CV):SegD:=⟨H67,[(6,0),(7,0)],cN 67 15,mS [(1,bv a),(2,LV.cv (CV.sl b)),(8,LV.loc 0 0)] [Ob.cells [bv c,bv d,LV.str e,LV.cv (CV.sl f)]]⟩
def PA (a:Int)(b:List CV)(c d:Int)(e:List UInt8)(f:List CV)(g:Mu):=(S1 a b c d e f).seg ρ g
def sC (a b:Int)(c:Mu):St:= .ret (mS [(6,bv a),(7,bv b)] []) c
def S2 (a:Int)(b:List CV)(c d:Int)(e:List UInt8)(f:List CV):SegD:=⟨H67,[(6,0),(7,0)],cN 67 31,mS [(1,bv a),(2,LV.cv (CV.sl b)),(8,LV.loc 0 0)] [Ob.cells [bv c,bv d,LV.str e,LV.cv (CV.sl f)]]⟩
def XI (a:Int)(b:List CV)(c d:Int)(e:List UInt8)(f:List CV)(g:Mu):=(S2 a b c d e f).seg ρ g
def OG (a:Int)(b:List CV)(c:Bool)(d:List CV)(e f g h:Int)(i:List UInt8)(j:List CV):SegD:=⟨H67,[(1,0),(2,2),(8,0),(11,0)],cN 67 2036,mS [(1,bv a),(2,LV.cv (CV.sl b)),(8,LV.loc 0 0),(11,LV.bool c),(67,LV.cv (CV.sl d)),(68,bv e),(69,bv f)] [Ob.cells [bv g,bv h,LV.str i,LV.cv (CV.sl j)]]⟩
def jh (a:Int)(b:List CV)(c:Bool)(d:List CV)(e f g h:Int)(i:List UInt8)(j:List CV)(k:Mu):=(OG a b c d e f g h i j).loop ρ k
def Sx (a:CV)(b:Mu):St:= .panic a (mS [] []) b
def yV (a:Int)(b:List CV)(c:Bool)(d e:Int)(f:List UInt8)(g:List CV)(h:Mu):St:= .exit 0 (mS [(1,bv a),(2,LV.cv (CV.sl b)),(8,LV.loc 0 0),(11,LV.bool c)] [Ob.cells [bv d,bv e,LV.str f,LV.cv (CV.sl g)]]) h
def sD (a b:Int)(c:Mu):St:= .ret (mS [(6,bv a),(7,bv b)] []) c
def Oj (a:Int)(b:List CV)(c d:Int)(e:List UInt8)(f:List CV):SegD:=⟨H67,[(6,0),(7,0)],cN 67 511,mS [(1,bv a),(2,LV.cv (CV.sl b)),(8,LV.loc 0 0)] [Ob.cells [bv c,bv d,LV.str e,LV.cv (CV.sl f)]]⟩
def R5 (a:Int)(b:List CV)(c d:Int)(e:List UInt8)(f:List CV)(g:Mu):=(Oj a b c d e f).seg ρ g
def tI (a b:Int)(c:Mu):St:= .ret (mS [(6,bv a),(7,bv b)] []) c
def Ok (a b c:Int)(d:List UInt8)(e:List CV):SegD:=⟨H67,[(6,0),(7,0)],cN 67 2047,mS [(8,LV.loc 0 0),(14,bv a)] [Ob.cells [bv b,bv c,LV.str d,LV.cv (CV.sl e)]]⟩
def R6 (a b c:Int)(d:List UInt8)(e:List CV)(f:Mu):=(Ok a b c d e).seg ρ f
def iZ (a b:Int)(c:Mu):St:= .ret (mS [(6,bv a),(7,bv b)] []) c
def qx (a:CV)(b:Mu):St:= .panic a (mS [] []) b
def Sq (a:CV)(b:Mu):St:= .panic a (mS [] []) b
def Vx (a:CV)(b:Mu):St:= .panic a (mS [] []) b
def J9 (a d k e f b c g h i j):(OG a d k e f b c g h i).rK ρ j=cond (decide (b<f)) (opt (dr e b) λn=>opt (bI .i64 (LV.cv n)) λm=>cond (k) (callK (ρ.call 72 [bv m,bv 0,bv (IntKind.wrap .i64 (a-1))] j) (λo l=>opt (ce o) λp=>cond (p) (jh ρ a d true e f (IntKind.wrap .i64 (b+1)) c g h i l) (cond (decide (m=(-1))) (jh ρ a d (decide (c=3)) e f (IntKind.wrap .i64 (b+1)) c g h i l) (jh ρ a d false e f (IntKind.wrap .i64 (b+1)) c g h i l))) (pX Sx)) (jh ρ a d false e f (IntKind.wrap .i64 (b+1)) c g h i j)) (some (yV a d k c g h i j)):=bx
def sT (a b e c h d):(Ok a b e c h).sK ρ d=cond (decide (b=1)) (callK (ρ.call 78 [LV.str c] d) (λi f=>opt (ce i) λj=>cond (!j) (some (iZ 0 4 f)) (cond (decide (b=0)) (callK (ρ.call 90 [bv e,LV.str c] f) (λk l=>opt (bI .i64 k) λm=>some (iZ a m l)) (pX qx)) (some (iZ a 0 f)))) (pX qx)) (cond (decide (b=2)) (callK (ρ.call 78 [LV.str c] d) (λn g=>opt (ce n) λo=>cond (!o) (some (iZ 0 4 g)) (cond (decide (b=0)) (callK (ρ.call 90 [bv e,LV.str c] g) (λp q=>opt (bI .i64 p) λr=>some (iZ a r q)) (pX qx)) (some (iZ a 0 g)))) (pX qx)) (cond (decide (b=0)) (callK (ρ.call 90 [bv e,LV.str c] d) (λs t=>opt (bI .i64 s) λu=>some (iZ a u t)) (pX qx)) (some (iZ a 0 d)))):=bx
def MN (a b c):kS ρ H67 [] [(6,0),(7,0)] (iZ a b c)=some (tI a b c):=bx
def JU (b c d e f a g):(Oj b c d e f a).sK ρ g=callK (ρ.call 117 [LV.cv (CV.sl c),LV.cv (CV.sl a),bv b] g) (λk h=>opt (b9 k) λl=>opt (bC l) λi=>opt (bI .i64 i.1) λm=>opt (bC i.2) λj=>opt (ce j.1) λn=>opt (bS j.2) λo=>cond (!n) (some (tI 0 3 h)) (opt (R6 ρ m d e f a h) (kS ρ H67 [] [(6,0),(7,0)]))) (pX Sq):=bx
def MM (a b c):kS ρ H67 [] [(6,0),(7,0)] (tI a b c)=some (sD a b c):=bx
def M9 (b c d e f g h a):kS ρ H67 [.block 0,.seq (cN 67 255)] [(6,0),(7,0)] (yV b c d e f g h a)=cond (!d) (some (sD 0 3 a)) (opt (R5 ρ b c e f g h a) (kS ρ H67 [] [(6,0),(7,0)])):=bx
def Zq (e f b c d a g):(S2 e f b c d a).sK ρ g=cond (decide (b=0)) (cond (decide (b=0)) (opt (jh ρ e f true a (a.length:Int) 0 b c d a g) (kS ρ H67 [.block 0,.seq (cN 67 255)] [(6,0),(7,0)])) (opt (jh ρ e f (decide (c=0)) a (a.length:Int) 0 b c d a g) (kS ρ H67 [.block 0,.seq (cN 67 255)] [(6,0),(7,0)]))) (cond (decide (b=1)) (cond (decide (b=0)) (opt (jh ρ e f true a (a.length:Int) 0 b c d a g) (kS ρ H67 [.block 0,.seq (cN 67 255)] [(6,0),(7,0)])) (opt (jh ρ e f (decide (c=0)) a (a.length:Int) 0 b c d a g) (kS ρ H67 [.block 0,.seq (cN 67 255)] [(6,0),(7,0)]))) (cond (decide (b=2)) (cond (decide (b=0)) (opt (jh ρ e f true a (a.length:Int) 0 b c d a g) (kS ρ H67 [.block 0,.seq (cN 67 255)] [(6,0),(7,0)])) (opt (jh ρ e f (decide (c=0)) a (a.length:Int) 0 b c d a g) (kS ρ H67 [.block 0,.seq (cN 67 255)] [(6,0),(7,0)]))) (cond (decide (d=([]:List UInt8))) (cond (decide (b=0)) (opt (jh ρ e f true a (a.length:Int) 0 b c d a g) (kS ρ H67 [.block 0,.seq (cN 67 255)] [(6,0),(7,0)])) (opt (jh ρ e f (decide (c=0)) a (a.length:Int) 0 b c d a g) (kS ρ H67 [.block 0,.seq (cN 67 255)] [(6,0),(7,0)]))) (opt (jh ρ e f false a (a.length:Int) 0 b c d a g) (kS ρ H67 [.block 0,.seq (cN 67 255)] [(6,0),(7,0)]))))):=bx
def QV (a b c):kS ρ H67 [] [(6,0),(7,0)] (sD a b c)=some (sC a b c):=bx
def OZ (c d a e f b g):(S1 c d a e f b).sK ρ g=callK (ρ.call 69 [] g) (λi j=>opt (fJ i) λk=>bB (fc a 25) (opt (il E.P 113 k (Int.toNat a*5)) λl=>fW (LV.cv l) λq m n r s=>callK (ρ.call 72 [bv (b.length:Int),bv m,bv n] j) (λo h=>opt (ce o) λp=>cond (!p) (some (sC 0 10 h)) (opt (XI ρ c d a e f b h) (kS ρ H67 [] [(6,0),(7,0)]))) (pX Vx))) pN:=bx
def Eb (a b c):kB ρ 67 H67 [] (sC a b c)=some (.ret (LV.ltup [bv a,bv b]) c):=bx
def WB (b a c d):bN E ρ 67 [LV.cv (CV.sl b),bv a,LV.cv (CV.sl c)] d=opt (dr b a) λg=>xk (LV.cv g) λe h i j=>callK (ρ.call 72 [bv e,bv 0,bv 24] d) (λk f=>opt (ce k) λl=>cond (!l) (some (.ret (LV.ltup [bv 0,bv 15]) f)) (opt (PA ρ a c e h i j f) (kB ρ 67 H67 []))) pP:=bx
def Tf (a b:Int)(c:List UInt8)(d e:List CV)(f g:Int):SegD:=⟨H68,[(0,0)],cN 68 52,mS [(0,LV.cv (CV.view [bD a,bD b,CV.str c,CV.sl d])),(10,LV.cv (CV.sl e)),(11,bv f),(12,bv g)] []⟩
def Dc (a b:Int)(c:List UInt8)(d e:List CV)(f g:Int)(h:Mu):=(Tf a b c d e f g).loop ρ h
def Cm (a:Int)(b:Mu):St:= .ret (mS [(2,bv a)] []) b
def Cn (a b:Int)(c:List UInt8)(d:List CV)(e:Mu):St:= .exit 0 (mS [(0,LV.cv (CV.view [bD a,bD b,CV.str c,CV.sl d]))] []) e
def Tg (a b:Int)(c:List UInt8)(d e:List CV)(f g:Int):SegD:=⟨H68,[],cN 68 116,mS [(0,LV.cv (CV.view [bD a,bD b,CV.str c,CV.sl d])),(36,LV.cv (CV.sl e)),(37,bv f),(38,bv g)] []⟩
def Ak (a b:Int)(c:List UInt8)(d e:List CV)(f g:Int)(h:Mu):=(Tg a b c d e f g).loop ρ h
def sF (a:Int)(b:Mu):St:= .ret (mS [(2,bv a)] []) b
def VE (a:CV)(b:Mu):St:= .panic a (mS [] []) b
def Co (a:Mu):St:= .exit 2 (mS [] []) a
def O4 (a d e f g h b c):(Tf a d e f g h b).rK ρ c=cond (decide (b<h)) (opt (dr g b) λi=>bB (cY i) (opt (jl (LV.cv i)) λn=>cond (!n) (opt (jk (LV.cv i)) λo=>bB (!o) (opt (f8 (LV.cv (jf i))) λp=>opt (bC p) λj=>opt (bI .i64 (LV.cv j.1)) λq=>opt (bC j.2) λk=>opt (bI .i64 (LV.cv k.1)) λr=>opt (bC k.2) λl=>opt (cf (LV.cv l.1)) λs=>opt (bC l.2) λm=>opt (cR (LV.cv m.1)) λt=>opt (bS m.2) λu=>cond (decide (q=3)) (cond (!decide (a=2)) (some (Cm 3 c)) (Dc ρ a d e f g h (IntKind.wrap .i64 (b+1)) c)) (Dc ρ a d e f g h (IntKind.wrap .i64 (b+1)) c))) (Dc ρ a d e f g h (IntKind.wrap .i64 (b+1)) c))) (some (Cn a d e f c)):=bx
def Q8 (a b):kB ρ 68 H68 [.block 0,.seq (cN 68 7)] (Cm a b)=some (.ret (bv a) b):=bx
def O5 (b f g h d e a i):(Tg b f g h d e a).rK ρ i=cond (decide (a<e)) (opt (dr d a) λc=>bB (cY c) (cond (decide (b=4)) (callK (ρ.call 76 [LV.cv c] i) (λw j=>opt (ce w) λx=>cond (!x) (some (sF 13 j)) (opt (jl (LV.cv c)) λy=>cond (!y) (callK (ρ.call 69 [] j) (λz A=>opt (fJ z) λB=>opt (jk (LV.cv c)) λC=>bB (!C) (opt (f8 (LV.cv (jf c))) λD=>opt (bC D) λk=>opt (bI .i64 (LV.cv k.1)) λl=>opt (bC k.2) λm=>opt (bI .i64 (LV.cv m.1)) λU=>opt (bC m.2) λn=>opt (cf (LV.cv n.1)) λV=>opt (bC n.2) λo=>opt (cR (LV.cv o.1)) λW=>opt (bS o.2) λX=>bB (fc l 25) (opt (il E.P 113 B (Int.toNat l*5)) λF=>fW (LV.cv F) λG Y Z aa ab=>callK (ρ.call 115 [bv b,bv a,bv G] A) (λH p=>opt (ce H) λI=>cond (!I) (some (sF 9 p)) (Ak ρ b f g h d e (IntKind.wrap .i64 (a+1)) p)) pN))) pN) (Ak ρ b f g h d e (IntKind.wrap .i64 (a+1)) j))) (pX VE)) (opt (jl (LV.cv c)) λJ=>cond (!J) (callK (ρ.call 69 [] i) (λK L=>opt (fJ K) λM=>opt (jk (LV.cv c)) λN=>bB (!N) (opt (f8 (LV.cv (jf c))) λO=>opt (bC O) λq=>opt (bI .i64 (LV.cv q.1)) λr=>opt (bC q.2) λs=>opt (bI .i64 (LV.cv s.1)) λac=>opt (bC s.2) λt=>opt (cf (LV.cv t.1)) λad=>opt (bC t.2) λu=>opt (cR (LV.cv u.1)) λae=>opt (bS u.2) λaf=>bB (fc r 25) (opt (il E.P 113 M (Int.toNat r*5)) λQ=>fW (LV.cv Q) λR ag ah ai aj=>callK (ρ.call 115 [bv b,bv a,bv R] L) (λS v=>opt (ce S) λT=>cond (!T) (some (sF 9 v)) (Ak ρ b f g h d e (IntKind.wrap .i64 (a+1)) v)) pN))) pN) (Ak ρ b f g h d e (IntKind.wrap .i64 (a+1)) i)))) (some (Co i)):=bx
def Ra (a b):kB ρ 68 H68 [.block 2,.seq (cN 68 15)] (sF a b)=some (.ret (bv a) b):=bx
def Rb (a):kB ρ 68 H68 [.block 2,.seq (cN 68 15)] (Co a)=some (.ret (bv 0) a):=bx
def Q9 (b c d a e):kB ρ 68 H68 [.block 0,.seq (cN 68 7)] (Cn b c d a e)=opt (Ak ρ b c d a a (a.length:Int) 0 e) (kB ρ 68 H68 [.block 2,.seq (cN 68 15)]):=bx
def aei (b c d a e):bN E ρ 68 [LV.cv (CV.view [bD b,bD c,CV.str d,CV.sl a])] e=opt (Dc ρ b c d a a (a.length:Int) 0 e) (kB ρ 68 H68 [.block 0,.seq (cN 68 7)]):=bx
def aej (a):bN E ρ 69 [] a=callK (ρ.call 119 [bv 9,bv 10,bv 9,LV.str [42,42]] a) (λb c=>fW b λd e f g h=>callK (ρ.call 119 [bv 8,bv 8,bv 9,LV.str [42]] c) (λi j=>fW i λk l m n o=>callK (ρ.call 119 [bv 8,bv 8,bv 9,LV.str [47]] j) (λp q=>fW p λr s t u w=>callK (ρ.call 119 [bv 7,bv 7,bv 8,LV.str [43]] q) (λx y=>fW x λz A B C D=>callK (ρ.call 119 [bv 7,bv 7,bv 8,LV.str [45]] y) (λF G=>fW F λH I J K L=>callK (ρ.call 119 [bv 6,bv 6,bv 7,LV.str [47,47]] G) (λM N=>fW M λO P Q R S=>callK (ρ.call 118 [LV.str [46,76,84,46]] N) (λT U=>fW T λV W X Y Z=>callK (ρ.call 118 [LV.str [46,76,69,46]] U) (λaa ab=>fW aa λac ad ae af ag=>callK (ρ.call 118 [LV.str [46,69,81,46]] ab) (λah ai=>fW ah λaj ak al am an=>callK (ρ.call 118 [LV.str [46,78,69,46]] ai) (λao ap=>fW ao λaq ar au av aw=>callK (ρ.call 118 [LV.str [46,71,69,46]] ap) (λax ay=>fW ax λaz aA aB aC aD=>callK (ρ.call 118 [LV.str [46,71,84,46]] ay) (λaE aF=>fW aE λaG aH aI aJ aK=>callK (ρ.call 119 [bv 3,bv 3,bv 4,LV.str [46,65,78,68,46]] aF) (λaL aM=>fW aL λaN aO aP aQ aR=>callK (ρ.call 119 [bv 2,bv 2,bv 3,LV.str [46,79,82,46]] aM) (λaS aT=>fW aS λaU aV aW aX aY=>callK (ρ.call 119 [bv 1,bv 1,bv 2,LV.str [46,69,81,86,46]] aT) (λaZ a0=>fW aZ λa1 a2 a3 a4 a5=>callK (ρ.call 119 [bv 1,bv 1,bv 2,LV.str [46,78,69,81,86,46]] a0) (λa6 a7=>fW a6 λa8 a9 ba bb bc=>some (.ret (LV.cv (CV.agg [bD 10,bD 0,bD 0,CV.v (.slice none 0 0),CV.str [],bD 10,bD 0,bD 0,CV.v (.slice none 0 0),CV.str [],bD 10,bD 1,bD 7,CV.v (.slice none 0 0),CV.str [],bD 0,bD 3,bD 3,CV.v (.slice none 0 0),CV.str [],bD 10,bD 2,bD 2,CV.v (.slice none 0 0),CV.str [],bD 10,bD 1,bD 1,CV.v (.slice none 0 0),CV.str [],bD 7,bD 1,bD 1,CV.sl [bD 8],CV.str [43],bD 7,bD 1,bD 1,CV.sl [bD 8],CV.str [45],bD 4,bD 1,bD 1,CV.sl [bD 4],CV.str [46,78,79,84,46],bD d,bD e,bD f,CV.sl g,CV.str h,bD k,bD l,bD m,CV.sl n,CV.str o,bD r,bD s,bD t,CV.sl u,CV.str w,bD z,bD A,bD B,CV.sl C,CV.str D,bD H,bD I,bD J,CV.sl K,CV.str L,bD O,bD P,bD Q,CV.sl R,CV.str S,bD V,bD W,bD X,CV.sl Y,CV.str Z,bD ac,bD ad,bD ae,CV.sl af,CV.str ag,bD aj,bD ak,bD al,CV.sl am,CV.str an,bD aq,bD ar,bD au,CV.sl av,CV.str aw,bD az,bD aA,bD aB,CV.sl aC,CV.str aD,bD aG,bD aH,bD aI,CV.sl aJ,CV.str aK,bD aN,bD aO,bD aP,CV.sl aQ,CV.str aR,bD aU,bD aV,bD aW,CV.sl aX,CV.str aY,bD a1,bD a2,bD a3,CV.sl a4,CV.str a5,bD a8,bD a9,bD ba,CV.sl bb,CV.str bc])) a7)) pP) pP) pP) pP) pP) pP) pP) pP) pP) pP) pP) pP) pP) pP) pP) pP:=bx
def aek (a c d b):bN E ρ 72 [bv a,bv c,bv d] b=cond (decide (c<=a)) (some (.ret (LV.bool (decide (a<=d))) b)) (some (.ret (LV.bool false) b)):=bx
def Th (a b:List CV)(c d e f:Int)(g:List UInt8)(h:List CV):SegD:=⟨H73,[(1,1),(5,0)],cN 73 116,mS [(1,LV.osl a),(5,LV.loc 0 0),(24,LV.cv (CV.sl b)),(25,bv c),(26,bv d)] [Ob.cells [bv e,bv f,LV.str g,LV.osl h]]⟩
def HL (a b:List CV)(c d e f:Int)(g:List UInt8)(h:List CV)(i:Mu):=(Th a b c d e f g h).loop ρ i
def S3 (a:List CV)(b:CV)(c:List CV)(d e f g:Int)(h:List UInt8)(i:List CV):SegD:=⟨H73,[(1,1),(5,0),(24,2),(25,0),(26,0)],cN 73 7475,mS [(1,LV.osl a),(5,LV.loc 0 0),(7,LV.cv b),(24,LV.cv (CV.sl c)),(25,bv d),(26,bv e)] [Ob.cells [bv f,bv g,LV.str h,LV.osl i]]⟩
def XJ (a:List CV)(b:CV)(c:List CV)(d e f g:Int)(h:List UInt8)(i:List CV)(j:Mu):=(S3 a b c d e f g h i).seg ρ j
def Cg (a b:List CV)(c d e f:Int)(g:List UInt8)(h:List CV)(i:Mu):St:= .norm (mS [(1,LV.osl a),(5,LV.loc 0 0),(24,LV.cv (CV.sl b)),(25,bv c),(26,bv d)] [Ob.cells [bv e,bv f,LV.str g,LV.osl h]]) i
def Vy (a:CV)(b:Mu):St:= .panic a (mS [] []) b
def Cp (a:List CV)(b c:Int)(d:List UInt8)(e:List CV)(f:Mu):St:= .exit 0 (mS [(1,LV.osl a),(5,LV.loc 0 0)] [Ob.cells [bv b,bv c,LV.str d,LV.osl e]]) f
def Zr (c d e f g h i j a k):(S3 c d e f g h i j a).sK ρ k=callK (ρ.call 73 [LV.cv d,LV.osl c] k) (λl m=>opt (gv l) λb=>bB (ef 1 a [bD (IntKind.wrap .i64 ((b.length:Int) -1))]) (some (Cg b e f g h i j (a++[bD (IntKind.wrap .i64 ((b.length:Int) -1))]) m))) (pX Vy):=bx
def QW (a b c d e f g h i):kR ρ H73 [.block 1,.seq (cN 73 935)] [(1,1),(5,0)] (cN 73 116) (Cg a b c d e f g h i)=HL ρ a b c (IntKind.wrap .i64 (d+1)) e f g h i:=bx
def FF (c d e a f g h b i):(Th c d e a f g h b).rK ρ i=cond (decide (a<e)) (opt (dr d a) λj=>bB (cY j) (opt (jl (LV.cv j)) λk=>cond (k) (bB (ef 1 b [bD (-1)]) (HL ρ c d e (IntKind.wrap .i64 (a+1)) f g h (b++[bD (-1)]) i)) (opt (XJ ρ c j d e a f g h b i) (kR ρ H73 [.block 1,.seq (cN 73 935)] [(1,1),(5,0)] (cN 73 116))))) (some (Cp c f g h b i)):=bx
def Rd (a b c d e f):kB ρ 73 H73 [.block 0,.seq (cN 73 15)] (Cp a b c d e f)=bB (ef 4 a [CV.agg [bD b,bD c,CV.str d,CV.sl e]]) (some (.ret (LV.osl (a++[CV.agg [bD b,bD c,CV.str d,CV.sl e]])) f)):=bx
def aaV (b c d a e f):bN E ρ 73 [LV.cv (CV.view [bD b,bD c,CV.str d,CV.sl a]),LV.osl e] f=opt (HL ρ e a (a.length:Int) 0 b c d [] f) (kB ρ 73 H73 [.block 0,.seq (cN 73 15)]):=bx
def ael (b f w c a):bN E ρ 76 [LV.cv (CV.view [bD b,bD f,CV.str w,CV.sl c])] a=cond (decide (b=6)) (cond (decide ((c.length:Int)=1)) (opt (dr c 0) λd=>bB (cY d) (opt (jk (LV.cv d)) λx=>bB (!x) (opt (f8 (LV.cv (jf d))) λy=>opt (bC y) λg=>opt (bI .i64 (LV.cv g.1)) λz=>opt (bC g.2) λh=>opt (bI .i64 (LV.cv h.1)) λZ=>opt (bC h.2) λi=>opt (cf (LV.cv i.1)) λaa=>opt (bC i.2) λj=>opt (cR (LV.cv j.1)) λab=>opt (bS j.2) λac=>cond (decide (z=0)) (opt (jk (LV.cv d)) λA=>bB (!A) (opt (f8 (LV.cv (jf d))) λB=>opt (bC B) λk=>opt (bI .i64 (LV.cv k.1)) λad=>opt (bC k.2) λl=>opt (bI .i64 (LV.cv l.1)) λC=>opt (bC l.2) λm=>opt (cf (LV.cv m.1)) λae=>opt (bC m.2) λn=>opt (cR (LV.cv n.1)) λaf=>opt (bS n.2) λag=>callK (ρ.call 123 [bv C] a) (λD F=>opt (ce D) λG=>some (.ret (LV.bool G) F)) pP)) (some (.ret (LV.bool false) a))))) (cond (decide (b=0)) (callK (ρ.call 123 [bv f] a) (λH I=>opt (ce H) λJ=>some (.ret (LV.bool J) I)) pP) (some (.ret (LV.bool false) a)))) (cond (decide (b=7)) (cond (decide ((c.length:Int)=1)) (opt (dr c 0) λe=>bB (cY e) (opt (jk (LV.cv e)) λK=>bB (!K) (opt (f8 (LV.cv (jf e))) λL=>opt (bC L) λo=>opt (bI .i64 (LV.cv o.1)) λM=>opt (bC o.2) λp=>opt (bI .i64 (LV.cv p.1)) λah=>opt (bC p.2) λq=>opt (cf (LV.cv q.1)) λai=>opt (bC q.2) λr=>opt (cR (LV.cv r.1)) λaj=>opt (bS r.2) λak=>cond (decide (M=0)) (opt (jk (LV.cv e)) λN=>bB (!N) (opt (f8 (LV.cv (jf e))) λO=>opt (bC O) λs=>opt (bI .i64 (LV.cv s.1)) λal=>opt (bC s.2) λt=>opt (bI .i64 (LV.cv t.1)) λP=>opt (bC t.2) λu=>opt (cf (LV.cv u.1)) λam=>opt (bC u.2) λv=>opt (cR (LV.cv v.1)) λan=>opt (bS v.2) λao=>callK (ρ.call 123 [bv P] a) (λQ R=>opt (ce Q) λS=>some (.ret (LV.bool S) R)) pP)) (some (.ret (LV.bool false) a))))) (cond (decide (b=0)) (callK (ρ.call 123 [bv f] a) (λT U=>opt (ce T) λV=>some (.ret (LV.bool V) U)) pP) (some (.ret (LV.bool false) a)))) (cond (decide (b=0)) (callK (ρ.call 123 [bv f] a) (λW X=>opt (ce W) λY=>some (.ret (LV.bool Y) X)) pP) (some (.ret (LV.bool false) a)))):=bx
def aem (a b):bN E ρ 78 [LV.str a] b=callK (ρ.call 55 [LV.cv (CV.agg [bD 0,bD 0,CV.str a])] b) (λc d=>opt (bI .i64 c) λe=>some (.ret (LV.bool (decide (e=0))) d)) pP:=bx
def aen (a b c):bN E ρ 82 [LV.cv (CV.sl a),LV.str b] c=callK (ρ.call 126 [LV.cv (CV.sl a),LV.str b] c) (λd e=>opt (bI .i64 d) λf=>some (.ret (LV.bool (decide (0<=f))) e)) pP:=bx
def S8 (a:CV)(b:Int):SegD:=⟨H85,[(4,2),(5,0),(6,0)],cN 85 15,mS [(7,LV.cv a),(8,bv b)] []⟩
def XN (a:CV)(b:Int)(c:Mu):=(S8 a b).seg ρ c
def Ch (a:List CV)(b c:Int)(d:Mu):St:= .ret (mS [(4,LV.cv (CV.sl a)),(5,bv b),(6,bv c)] []) d
def Zw (a b c):(S8 a b).sK ρ c=opt (jk (LV.cv a)) λh=>bB (!h) (opt (f8 (LV.cv (jf a))) λi=>opt (bC i) λd=>opt (cf (LV.cv d.1)) λk=>opt (bC d.2) λe=>opt (ce (LV.cv e.1)) λl=>opt (bC e.2) λf=>opt (cR (LV.cv f.1)) λj=>opt (bC f.2) λg=>opt (cR (LV.cv g.1)) λm=>opt (bS g.2) λn=>some (Ch j b 0 c)):=bx
def Q0 (a b c d):kB ρ 85 H85 [] (Ch a b c d)=some (.ret (LV.ltup [LV.cv (CV.sl a),bv b,bv c]) d):=bx
def aeo (a b c):bN E ρ 85 [LV.str a,LV.bool b] c=callK (ρ.call 127 [LV.str a,LV.bool b] c) (λj d=>opt (b9 j) λk=>opt (bC k) λe=>opt (cx e.1) λl=>opt (bC e.2) λf=>opt (bI .i64 f.1) λg=>opt (bC f.2) λh=>opt (bI .i64 h.1) λi=>opt (bS h.2) λm=>cond (!decide (i=0)) (some (.ret (LV.ltup [LV.cv (CV.v (.slice none 0 0)),bv g,bv i]) d)) (opt (XN ρ l g d) (kB ρ 85 H85 []))) pP:=bx
def S9 (a:Lam):SegD:=⟨H87,[(0,0),(2,0),(4,0),(6,0)],cN 87 971,mS [(4,LV.loc 0 0)] a true⟩
def XO (a:Lam)(b:Mu):=(S9 a).seg ρ b
def Ci (a:Lam)(b:Mu):St:= .ret (mS [] a true) b
def Vz (a:CV)(b:Lam)(c:Mu):St:= .panic a (mS [] b true) c
def Ol (a:Lam):SegD:=⟨H87,[(0,0),(2,0),(4,0),(6,0)],cN 87 15611,mS [(4,LV.loc 0 0)] a true⟩
def R7 (a:Lam)(b:Mu):=(Ol a).seg ρ b
def yC (a:Lam)(b:Mu):St:= .ret (mS [] a true) b
def Sr (a:CV)(b:Lam)(c:Mu):St:= .panic a (mS [] b true) c
def Om (a b:Int)(c:List UInt8)(d:List CV)(e:Bool)(f g:Nat)(h i j:Int)(k:List CV)(l:List UInt8):SegD:=⟨H87,[],cN 87 31,mS [(0,LV.cv (CV.view [bD a,bD b,CV.str c,CV.sl d])),(2,LV.bool e),(4,LV.loc 0 0),(6,LV.loc 1 0)] [Ob.cells [LV.cv (CV.tref f g 130 2)],Ob.cells [bv h,bv i,bv j,LV.cv (CV.sl k),LV.str l]]⟩
def R8 (a b:Int)(c:List UInt8)(d:List CV)(e:Bool)(f g:Nat)(h i j:Int)(k:List CV)(l:List UInt8)(m:Mu):=(Om a b c d e f g h i j k l).seg ρ m
def On (a b:Int)(c:List UInt8)(d:List CV)(e:Bool)(f g:Nat)(h i j:Int)(k:List CV)(l:List UInt8):SegD:=⟨H87,[],cN 87 63,mS [(0,LV.cv (CV.view [bD a,bD b,CV.str c,CV.sl d])),(2,LV.bool e),(4,LV.loc 0 0),(6,LV.loc 1 0)] [Ob.cells [LV.cv (CV.tref f g 130 2)],Ob.cells [bv h,bv i,bv j,LV.cv (CV.sl k),LV.str l]]⟩
def xS (a b:Int)(c:List UInt8)(d:List CV)(e:Bool)(f g:Nat)(h i j:Int)(k:List CV)(l:List UInt8)(m:Mu):=(On a b c d e f g h i j k l).seg ρ m
def Oo (a b:Int)(c:List UInt8)(d:List CV)(e:Bool)(f g:Nat)(h i j:Int)(k:List CV)(l:List UInt8):SegD:=⟨H87,[],cN 87 127,mS [(0,LV.cv (CV.view [bD a,bD b,CV.str c,CV.sl d])),(2,LV.bool e),(4,LV.loc 0 0),(6,LV.loc 1 0)] [Ob.cells [LV.cv (CV.tref f g 130 2)],Ob.cells [bv h,bv i,bv j,LV.cv (CV.sl k),LV.str l]]⟩
def Iq (a b:Int)(c:List UInt8)(d:List CV)(e:Bool)(f g:Nat)(h i j:Int)(k:List CV)(l:List UInt8)(m:Mu):=(Oo a b c d e f g h i j k l).seg ρ m
def tJ (a:Mu):St:= .norm (mS [] []) a
def yE (a:CV)(b:Mu):St:= .panic a (mS [] []) b
def qy (a:Mu):St:= .norm (mS [] []) a
def Su (a:CV)(b:Mu):St:= .panic a (mS [] []) b
def yD (a:Mu):St:= .norm (mS [] []) a
def Ss (a:CV)(b:Mu):St:= .panic a (mS [] []) b
def Zx (a:CV)(b c d:Int)(e:List CV)(f:List UInt8)(g:Mu):(S9 [Ob.cells [LV.cv a],Ob.cells [bv b,bv c,bv d,LV.cv (CV.sl e),LV.str f]]).sK ρ g=callK (ρ.call 130 [LV.cv a,LV.int .u8 41] (g++[[Ob.cells [LV.cv a],Ob.cells [bv b,bv c,bv d,LV.cv (CV.sl e),LV.str f]]])) (λj k=>opt (dq k) λh=>opt (cx j) λn=>some (Ci h.2 h.1)) (λl m=>opt (dq m) λi=>some (Vz l i.2 i.1)):=bx
def Q1 (b a):kB ρ 87 H87 [.block 0,.seq (cN 87 31)] (Ci b a)=some (.ret (LV.ltup []) a):=bx
def W5 (a:CV)(b c d:Int)(e:List CV)(f:List UInt8)(g:Mu):(Ol [Ob.cells [LV.cv a],Ob.cells [bv b,bv c,bv d,LV.cv (CV.sl e),LV.str f]]).sK ρ g=callK (ρ.call 130 [LV.cv a,LV.int .u8 41] (g++[[Ob.cells [LV.cv a],Ob.cells [bv b,bv c,bv d,LV.cv (CV.sl e),LV.str f]]])) (λj k=>opt (dq k) λh=>opt (cx j) λn=>some (yC h.2 h.1)) (λl m=>opt (dq m) λi=>some (Sr l i.2 i.1)):=bx
def MO (b a):kB ρ 87 H87 [.block 0,.seq (cN 87 31)] (yC b a)=some (.ret (LV.ltup []) a):=bx
def JX (k l m c d a b n o p q e f):(Oo k l m c d a b n o p q e).sK ρ f=callK (ρ.call 129 [LV.cv (CV.tref a b 130 2),LV.str e] f) (λr s=>opt (b9 r) λt=>opt (bC t) λg=>opt (bI .i64 g.1) λy=>opt (bC g.2) λh=>opt (cx h.1) λz=>opt (bS h.2) λA=>opt (dr c (IntKind.wrap .i64 ((c.length:Int) -1))) λi=>bB (cY i) (callK (ρ.call 87 [LV.cv i,LV.cv (CV.tref a b 130 2),LV.bool d] s) (λu j=>opt (b9 u) λv=>opt (bS v) λB=>cond (d) (callK (ρ.call 130 [LV.cv (CV.tref a b 130 2),LV.int .u8 93] j) (λw x=>opt (cx w) λC=>some (tJ x)) (pX yE)) (some (tJ j))) (pX yE))) (pX yE):=bx
def BI (a):kS ρ H87 [] [] (tJ a)=some (qy a):=bx
def JW (e f g a b c d h i j k l m):(On e f g a b c d h i j k l).sK ρ m=cond (decide ((a.length:Int)=2)) (opt (dr a 0) λn=>bB (cY n) (callK (ρ.call 87 [LV.cv n,LV.cv (CV.tref c d 130 2),LV.bool b] m) (λo p=>opt (b9 o) λq=>opt (bS q) λr=>opt (Iq ρ e f g a b c d h i j k l p) (kS ρ H87 [] [])) (pX Su))) (opt (Iq ρ e f g a b c d h i j k l m) (kS ρ H87 [] [])):=bx
def BH (a):kS ρ H87 [] [] (qy a)=some (yD a):=bx
def JV (d e f g a b c h i j k l m):(Om d e f g a b c h i j k l).sK ρ m=cond (a) (callK (ρ.call 130 [LV.cv (CV.tref b c 130 2),LV.int .u8 91] m) (λn o=>opt (cx n) λp=>opt (xS ρ d e f g a b c h i j k l o) (kS ρ H87 [] [])) (pX Ss)) (opt (xS ρ d e f g a b c h i j k l m) (kS ρ H87 [] [])):=bx
def BG (a):kB ρ 87 H87 [] (yD a)=some (.ret (LV.ltup []) a):=bx
def aep (e m f c a b l n):bN E ρ 87 [LV.cv (CV.view [bD e,bD m,CV.str f,CV.sl c]),LV.cv (CV.tref a b 130 2),LV.bool l] n=callK (ρ.call 69 [] n) (λH d=>opt (fJ H) λI=>bB (fc e 25) (opt (il E.P 113 I (Int.toNat e*5)) λJ=>fW (LV.cv J) λg h i j k=>cond (decide (e=2)) (bB (small (f.length+List.length ([40]:List UInt8))) (callK (ρ.call 129 [LV.cv (CV.tref a b 130 2),LV.str (f++[40])] d) (λK o=>opt (b9 K) λL=>opt (bC L) λp=>opt (bI .i64 p.1) λaw=>opt (bC p.2) λq=>opt (cx q.1) λax=>opt (bS q.2) λay=>callK (ρ.call 128 [LV.str [44],LV.cv (CV.sl c),LV.cv (CV.ref (List.length o) 0 0)] (o++[[Ob.cells [LV.cv (CV.tref a b 130 2)],Ob.cells [bv g,bv h,bv i,LV.cv (CV.sl j),LV.str k]]])) (λM N=>opt (dq N) λr=>opt (b9 M) λO=>opt (bS O) λaz=>kE [(0,[3])] r.2 λQ=>opt (XO ρ Q r.1) (kB ρ 87 H87 [.block 0,.seq (cN 87 31)])) (λs R=>opt (dq R) λt=>bB (below (List.length t.1) s) (some (.panic s t.1)))) pP)) (cond (decide (e=3)) (opt (dr c 2) λu=>bB (cY u) (opt (jl (LV.cv u)) λS=>cond (S) (opt (ku c 0 2) λT=>callK (ρ.call 128 [LV.str [58],LV.cv (CV.sl T),LV.cv (CV.ref (List.length d) 0 0)] (d++[[Ob.cells [LV.cv (CV.tref a b 130 2)],Ob.cells [bv g,bv h,bv i,LV.cv (CV.sl j),LV.str k]]])) (λU V=>opt (dq V) λW=>opt (b9 U) λX=>opt (bS X) λaA=>some (.ret (LV.ltup []) W.1)) (λv Y=>opt (dq Y) λw=>bB (below (List.length w.1) v) (some (.panic v w.1)))) (callK (ρ.call 128 [LV.str [58],LV.cv (CV.sl c),LV.cv (CV.ref (List.length d) 0 0)] (d++[[Ob.cells [LV.cv (CV.tref a b 130 2)],Ob.cells [bv g,bv h,bv i,LV.cv (CV.sl j),LV.str k]]])) (λZ aa=>opt (dq aa) λab=>opt (b9 Z) λac=>opt (bS ac) λaB=>some (.ret (LV.ltup []) ab.1)) (λx ad=>opt (dq ad) λy=>bB (below (List.length y.1) x) (some (.panic x y.1)))))) (cond (decide (e=4)) (callK (ρ.call 130 [LV.cv (CV.tref a b 130 2),LV.int .u8 40] d) (λae z=>opt (cx ae) λaC=>callK (ρ.call 128 [LV.str [44],LV.cv (CV.sl c),LV.cv (CV.ref (List.length z) 0 0)] (z++[[Ob.cells [LV.cv (CV.tref a b 130 2)],Ob.cells [bv g,bv h,bv i,LV.cv (CV.sl j),LV.str k]]])) (λaf ag=>opt (dq ag) λA=>opt (b9 af) λah=>opt (bS ah) λaD=>kE [(0,[3])] A.2 λai=>opt (R7 ρ ai A.1) (kB ρ 87 H87 [.block 0,.seq (cN 87 31)])) (λB aj=>opt (dq aj) λC=>bB (below (List.length C.1) B) (some (.panic B C.1)))) pP) (cond (decide (e=5)) (callK (ρ.call 130 [LV.cv (CV.tref a b 130 2),LV.int .u8 40] d) (λak al=>opt (cx ak) λaE=>opt (dr c 0) λD=>bB (cY D) (callK (ρ.call 87 [LV.cv D,LV.cv (CV.tref a b 130 2),LV.bool l] al) (λam an=>opt (b9 am) λao=>opt (bS ao) λaF=>callK (ρ.call 130 [LV.cv (CV.tref a b 130 2),LV.int .u8 41] an) (λap aq=>opt (cx ap) λaG=>some (.ret (LV.ltup []) aq)) pP) pP)) pP) (cond (decide ((c.length:Int)=0)) (callK (ρ.call 129 [LV.cv (CV.tref a b 130 2),LV.str f] d) (λar au=>opt (b9 ar) λav=>opt (bC av) λF=>opt (bI .i64 F.1) λaH=>opt (bC F.2) λG=>opt (cx G.1) λaI=>opt (bS G.2) λaJ=>some (.ret (LV.ltup []) au)) pP) (opt (R8 ρ e m f c l a b g h i j k d) (kB ρ 87 H87 [])))))))) pN:=bx
def aeq (b c a):bN E ρ 88 [LV.cv (CV.tref b c 130 2)] a=opt (cD E.P 128 (b7 a b c) 1) λd=>opt (cR d) λe=>some (.ret (bv (e.length:Int)) a):=bx
def Ta (a:List UInt8):SegD:=⟨H90,[],cN 90 213,mS [(1,LV.str a)] []⟩
def HK (a:List UInt8)(b:Mu):=(Ta a).seg ρ b
def wu (a:Int)(b:Mu):St:= .ret (mS [(4,bv a)] []) b
def VA (a:CV)(b:Mu):St:= .panic a (mS [] []) b
def Oq (a:Int)(b:List UInt8)(c:Bool):SegD:=⟨H90,[],cN 90 215,mS [(0,bv a),(1,LV.str b),(39,LV.bool c)] []⟩
def so (a:Int)(b:List UInt8)(c:Bool)(d:Mu):=(Oq a b c).seg ρ d
def l5 (a:Int)(b:Mu):St:= .ret (mS [(4,bv a)] []) b
def Sv (a:CV)(b:Mu):St:= .panic a (mS [] []) b
def yF (a:Mu):St:= .norm (mS [] []) a
def Zy (a b):(Ta a).sK ρ b=callK (ρ.call 133 [LV.str a] b) (λf c=>opt (b9 f) λg=>opt (bC g) λd=>opt (bI .i64 d.1) λh=>opt (bC d.2) λe=>opt (cx e.1) λi=>opt (bS e.2) λj=>cond (decide (2147483647<h)) (some (wu 28 c)) (some (wu 0 c))) (pX VA):=bx
def Q2 (a b):kB ρ 90 H90 [.block 0,.seq (cN 90 7)] (wu a b)=some (.ret (bv a) b):=bx
def JY (d b e c):(Oq d b e).sK ρ c=cond (e) (callK (ρ.call 134 [LV.str b] c) (λh a=>opt (b9 h) λi=>opt (bC i) λf=>jo f.1 λj k l=>opt (bC f.2) λg=>opt (ce g.1) λm=>opt (bS g.2) λn=>cond (!m) (some (l5 3 a)) (cond (!decide (j=1)) (some (l5 3 a)) (cond (!decide (k=d)) (some (l5 3 a)) (cond (!decide (l=b)) (some (l5 3 a)) (some (l5 0 a)))))) (pX Sv)) (some (yF c)):=bx
def MP (a b):kB ρ 90 H90 [.block 0,.seq (cN 90 7)] (l5 a b)=some (.ret (bv a) b):=bx
def MQ (a):kB ρ 90 H90 [.block 0,.seq (cN 90 7)] (yF a)=some (.ret (bv 15) a):=bx
def aer (a b c):bN E ρ 90 [bv a,LV.str b] c=cond (decide (a=0)) (cond (decide (b=([]:List UInt8))) (some (.ret (bv 3) c)) (cond (decide (10<(b.length:Int))) (some (.ret (bv 3) c)) (callK (ρ.call 131 [LV.str b,LV.cv (CV.clo 132 [])] c) (λe d=>opt (ce e) λf=>cond (f) (some (.ret (bv 3) d)) (opt (km b 0) λg=>cond (decide ((g.toNat:Int)=48)) (cond (!decide (b=([48]:List UInt8))) (some (.ret (bv 3) d)) (opt (HK ρ b d) (kB ρ 90 H90 [.block 0,.seq (cN 90 7)]))) (opt (HK ρ b d) (kB ρ 90 H90 [.block 0,.seq (cN 90 7)])))) pP))) (cond (decide (a=1)) (opt (so ρ a b (decide (a=1)) c) (kB ρ 90 H90 [.block 0,.seq (cN 90 7)])) (cond (decide (a=2)) (opt (so ρ a b (decide (a=2)) c) (kB ρ 90 H90 [.block 0,.seq (cN 90 7)])) (cond (decide (a=5)) (opt (so ρ a b (decide (a=5)) c) (kB ρ 90 H90 [.block 0,.seq (cN 90 7)])) (opt (so ρ a b (decide (a=6)) c) (kB ρ 90 H90 [.block 0,.seq (cN 90 7)]))))):=bx
def aes (a b):bN E ρ 91 [LV.str a] b=cond (!decide (a=([]:List UInt8))) (cond (decide ((a.length:Int)<=31)) (opt (km a 0) λe=>callK (ρ.call 135 [LV.int .u8 (e.toNat:Int)] b) (λf c=>opt (ce f) λg=>cond (g) (callK (ρ.call 136 [LV.str a] c) (λh d=>opt (cf h) λi=>cond (decide (i=a)) (callK (ρ.call 131 [LV.str a,LV.cv (CV.clo 137 [])] d) (λj k=>opt (ce j) λl=>some (.ret (LV.bool (!l)) k)) pP) (some (.ret (LV.bool false) d))) pP) (some (.ret (LV.bool false) c))) pP) (some (.ret (LV.bool false) b))) (some (.ret (LV.bool false) b)):=bx
def aet (a):bN E ρ 92 [] a=some (.ret (LV.osl [CV.str [46,76,84,46],CV.str [46,76,69,46],CV.str [46,69,81,46],CV.str [46,78,69,46],CV.str [46,71,69,46],CV.str [46,71,84,46],CV.str [46,78,79,84,46],CV.str [46,65,78,68,46],CV.str [46,79,82,46],CV.str [46,69,81,86,46],CV.str [46,78,69,81,86,46]]) a):=bx
def aeu (a):bN E ρ 93 [] a=some (.ret (LV.osl [CV.str [42,42],CV.str [47,47],CV.str [61,62],CV.str [42],CV.str [47],CV.str [43],CV.str [45],CV.str [40],CV.str [41],CV.str [44],CV.str [58],CV.str [61],CV.str [37]]) a):=bx
def aaW (b c d e a):i6 E ρ 94 none [LV.cv (CV.ref b c 0),LV.cv (CV.ref d e 0)] a=some a:=bx
def aaX (f a b d e c):i6 E ρ 94 (some (CV.iface 137 (CV.agg [bD f]))) [LV.cv (CV.ref a b 0),LV.cv (CV.ref d e 0)] c=opt (du E.P 91 (b7 c a b) 0 (LV.cv (CV.v (.pointer none)))) λg=>opt (du E.P 25 (b7 (cq c a b g) d e) 0 (bv f)) λh=>some (cq (cq c a b g) d e h):=bx
def aev (a b c):bN E ρ 95 [LV.cv (CV.ref a b 0)] c=callK (ρ.call 139 [LV.cv (CV.ref a b 0),bv 1] c) (λd e=>opt (cx d) λf=>some (.ret (LV.cv f) e)) pP:=bx
def Tk (a:Int)(b:List CV)(c d:Int):SegD:=⟨H96,[(3,0)],cN 96 116,mS [(3,bv a),(9,LV.cv (CV.sl b)),(10,bv c),(11,bv d)] []⟩
def HM (a:Int)(b:List CV)(c d:Int)(e:Mu):=(Tk a b c d).loop ρ e
def VF (a:CV)(b:Mu):St:= .panic a (mS [] []) b
def Cq (a:Int)(b:Mu):St:= .exit 0 (mS [(3,bv a)] []) b
def FG (b c d a e):(Tk b c d a).rK ρ e=cond (decide (a<d)) (opt (dr c a) λf=>bB (cY f) (opt (jl (LV.cv f)) λg=>cond (!g) (callK (ρ.call 96 [LV.cv f] e) (λh i=>opt (bI .i64 h) λj=>HM ρ (IntKind.wrap .i64 (b+j)) c d (IntKind.wrap .i64 (a+1)) i) (pX VF)) (HM ρ b c d (IntKind.wrap .i64 (a+1)) e))) (some (Cq b e)):=bx
def Rf (a b):kB ρ 96 H96 [.block 0,.seq (cN 96 15)] (Cq a b)=some (.ret (bv a) b):=bx
def aew (c d e a b):bN E ρ 96 [LV.cv (CV.view [bD c,bD d,CV.str e,CV.sl a])] b=opt (HM ρ 1 a (a.length:Int) 0 b) (kB ρ 96 H96 [.block 0,.seq (cN 96 15)]):=bx
def aex (a b c):bN E ρ 97 [LV.cv (CV.sl a),LV.cv (CV.clo b [])] c=callK (ρ.call 140 [LV.cv (CV.sl a),LV.cv (CV.clo b [])] c) (λd e=>opt (bI .i64 d) λf=>some (.ret (LV.bool (decide (0<=f))) e)) pP:=bx
def aey (a b c d e):bN E ρ 98 [LV.cv (CV.view [bD a,bD b,CV.str c,CV.sl d])] e=callK (ρ.call 58 [LV.cv (CV.view [bD a,bD b,CV.str c,CV.sl d])] e) (λf g=>opt (ce f) λh=>some (.ret (LV.bool h) g)) pP:=bx
def Ot (a:List CV)(b:Nat)(c:List CV)(d e:Int)(f:List CV):SegD:=⟨BZ,[(0,2),(3,0)],cN 114 116,mS [(0,LV.cv (CV.sl a)),(3,LV.lsl 0 0 b),(12,LV.cv (CV.sl c)),(13,bv d),(14,bv e)] [Ob.arr 1 f]⟩
def Iv (a:List CV)(b:Nat)(c:List CV)(d e:Int)(f:List CV)(g:Mu):=(Ot a b c d e f).loop ρ g
def Ou (a:List CV)(b:Nat)(c:Int)(d:List CV)(e f:Int)(g:List CV)(h i:Int)(j:List CV)(k l:Int)(m:List UInt8)(n:List CV)(o p:Int)(q:List UInt8)(r:List CV):SegD:=⟨BZ,[(0,2),(3,0),(4,0),(6,0),(12,2),(13,0),(14,0)],cN 114 119604,mS [(0,LV.cv (CV.sl a)),(3,LV.lsl 0 0 b),(4,bv c),(5,LV.loc 1 0),(6,LV.loc 2 0),(12,LV.cv (CV.sl d)),(13,bv e),(14,bv f),(28,LV.cv (CV.sl g)),(29,bv h),(30,bv i)] [Ob.arr 1 j,Ob.cells [bv k,bv l,LV.str m,LV.cv (CV.sl n)],Ob.cells [bv o,bv p,LV.str q,LV.osl r]]⟩
def C8 (a:List CV)(b:Nat)(c:Int)(d:List CV)(e f:Int)(g:List CV)(h i:Int)(j:List CV)(k l:Int)(m:List UInt8)(n:List CV)(o p:Int)(q:List UInt8)(r:List CV)(s:Mu):=(Ou a b c d e f g h i j k l m n o p q r).loop ρ s
def yH (a:List CV)(b:Nat)(c:Int)(d:List CV)(e f:Int)(g:List CV)(h i:Int)(j:List UInt8)(k:List CV)(l:Mu):St:= .exit 2 (mS [(0,LV.cv (CV.sl a)),(3,LV.lsl 0 0 b),(4,bv c),(6,LV.loc 1 0),(12,LV.cv (CV.sl d)),(13,bv e),(14,bv f)] [Ob.arr 1 g,Ob.cells [bv h,bv i,LV.str j,LV.osl k]]) l
def yG (a:List CV)(b:Nat)(c:List CV)(d:Mu):St:= .exit 0 (mS [(0,LV.cv (CV.sl a)),(3,LV.lsl 0 0 b)] [Ob.arr 1 c]) d
def J0 (f b g h i j k l c d q r s t m n o a p):(Ou f b g h i j k l c d q r s t m n o a).rK ρ p=cond (decide (c<l)) (opt (dr k c) λw=>opt (bI .i64 (LV.cv w)) λu=>cond (decide (u=(-1))) (bB (ef 1 a [CV.v (.pointer none)]) (C8 ρ f b g h i j k l (IntKind.wrap .i64 (c+1)) d q r s t m n o (a++[CV.v (.pointer none)]) p)) (bB (fc u b) (opt (cD E.P 91 (Ob.arr 1 d) (0+(u).toNat*1)) λx=>opt (cx x) λe=>bB (cY e) (bB (noB e&&true) (bB (gw [e]&&ef 1 a [e]) (C8 ρ f b g h i j k l (IntKind.wrap .i64 (c+1)) d q r s t m n o (a++[e]) p)))))) (some (yH f b g h i j d m n o a p)):=bx
def MS (h b a i j k c d e f g l):kR ρ BZ [.block 2,.seq (cN 114 14951),.block 1,.seq (cN 114 935)] [(0,2),(3,0)] (cN 114 116) (yH h b a i j k c d e f g l)=bB (fc a b) (bB (ga 1 (CV.view [bD d,bD e,CV.str f,CV.sl g])&&Nat.ble (0+(a).toNat*1+1) (c.length)) (Iv ρ h b i j (IntKind.wrap .i64 (k+1)) (dh c (0+(a).toNat*1) (CV.cells (CV.view [bD d,bD e,CV.str f,CV.sl g]))) l)):=bx
def JZ (b c d e a f g):(Ot b c d e a f).rK ρ g=cond (decide (a<e)) (opt (dr d a) λl=>xk (LV.cv l) λi j k h=>opt (C8 ρ b c a d e a h (h.length:Int) 0 f i j k h i j k [] g) (kR ρ BZ [.block 2,.seq (cN 114 14951),.block 1,.seq (cN 114 935)] [(0,2),(3,0)] (cN 114 116))) (some (yG b c f g)):=bx
def MR (a b c d):kB ρ 114 BZ [.block 0,.seq (cN 114 15)] (yG a b c d)=bB (fc (IntKind.wrap .i64 ((a.length:Int) -1)) b) (opt (cD E.P 91 (Ob.arr 1 c) (0+(IntKind.wrap .i64 ((a.length:Int) -(1:Int))).toNat*1)) λe=>opt (cx e) λf=>some (.ret (LV.cv f) d)):=bx
def ab1 (a b):bN E ρ 114 [LV.cv (CV.sl a)] b=bB (decide (0<=(a.length:Int))&&decide ((a.length:Int)<=1000000000)) (opt (Iv ρ a (Int.toNat (a.length:Int)) a (a.length:Int) 0 (kc (Int.toNat (a.length:Int)) [CV.v (.pointer none)]) b) (kB ρ 114 BZ [.block 0,.seq (cN 114 15)])):=bx
def ab2 (a b c d):bN E ρ 115 [bv a,bv b,bv c] d=callK (ρ.call 69 [] d) (λg e=>opt (fJ g) λh=>bB (fc a 25) (opt (il E.P 113 h (Int.toNat a*5)) λi=>fW (LV.cv i) λl m n f o=>cond (decide ((f.length:Int)<=b)) (some (.ret (LV.bool true) e)) (opt (dr f b) λj=>opt (bI .i64 (LV.cv j)) λk=>some (.ret (LV.bool (decide (k<=c))) e)))) pP:=bx
def ab3 (a b):bN E ρ 118 [LV.str a] b=callK (ρ.call 119 [bv 5,bv 6,bv 6,LV.str a] b) (λc d=>fW c λe f g h i=>some (.ret (LV.cv (CV.agg [bD e,bD f,bD g,CV.sl h,CV.str i])) d)) pP:=bx
def ab4 (a b c d e):bN E ρ 119 [bv a,bv b,bv c,LV.str d] e=some (.ret (LV.cv (CV.agg [bD a,bD 2,bD 2,CV.sl [bD b,bD c],CV.str d])) e):=bx
def ab5 (a b):bN E ρ 123 [bv a] b=cond (decide (a=0)) (some (.ret (LV.bool true) b)) (cond (decide (a=1)) (some (.ret (LV.bool true) b)) (some (.ret (LV.bool (decide (a=2))) b))):=bx
def Ov (a:List CV)(b:List UInt8)(c d:Int):SegD:=⟨Ir,[],cN 126 52,mS [(0,LV.cv (CV.sl a)),(1,LV.str b),(7,bv c),(8,bv d)] []⟩
def Iw (a:List CV)(b:List UInt8)(c d:Int)(e:Mu):=(Ov a b c d).loop ρ e
def yI (a:Int)(b:Mu):St:= .ret (mS [(4,bv a)] []) b
def yJ (a:Mu):St:= .exit 0 (mS [] []) a
def J1 (c d e a b):(Ov c d e a).rK ρ b=cond (decide (a<e)) (opt (dr c a) λf=>opt (cf (LV.cv f)) λg=>cond (decide (d=g)) (some (yI a b)) (Iw ρ c d e (IntKind.wrap .i64 (a+1)) b)) (some (yJ b)):=bx
def MT (a b):kB ρ 126 Ir [.block 0,.seq (cN 126 7)] (yI a b)=some (.ret (bv a) b):=bx
def MU (a):kB ρ 126 Ir [.block 0,.seq (cN 126 7)] (yJ a)=some (.ret (bv (-1)) a):=bx
def ab6 (a b c):bN E ρ 126 [LV.cv (CV.sl a),LV.str b] c=opt (Iw ρ a b (a.length:Int) 0 c) (kB ρ 126 Ir [.block 0,.seq (cN 126 7)]):=bx
def NI (a:List UInt8)(b:Bool):SegD:=⟨m8,[(4,0),(5,0),(6,0)],cN 127 15,mS [(7,LV.loc 0 0)] [Ob.cells [LV.str a,LV.bool b,LV.cv (CV.v (.slice none 0 0)),LV.cv (CV.v (.slice none 0 0))]]⟩
def RK (a:List UInt8)(b:Bool)(c:Mu):=(NI a b).seg ρ c
def NJ (a b:Int)(c:Lam):SegD:=⟨m8,[(7,0)],cN 127 61,mS [(7,LV.loc 0 0),(9,bv a),(10,bv b)] c true⟩
def If (a b:Int)(c:Lam)(d:Mu):=(NJ a b c).seg ρ d
def xZ (a:List UInt8)(b:Bool)(c d:List CV)(e f:Int)(g:Mu):St:= .ret (mS [(4,LV.cv (CV.view [CV.str a,CV.bool b,CV.sl c,CV.sl d])),(5,bv e),(6,bv f)] [Ob.dead] true) g
def x5 (a:List UInt8)(b:Bool)(c d:List CV)(e:Mu):St:= .norm (mS [(7,LV.loc 0 0)] [Ob.cells [LV.str a,LV.bool b,LV.osl c,LV.osl d]] true) e
def tz (a:List UInt8)(b:Bool)(c d:List CV)(e f:Int)(g:Mu):St:= .ret (mS [(4,LV.cv (CV.view [CV.str a,CV.bool b,CV.sl c,CV.sl d])),(5,bv e),(6,bv f)] [Ob.dead] true) g
def NK (a:Lam):SegD:=⟨m8,[(4,0),(5,0),(6,0)],cN 127 31,mS [(7,LV.loc 0 0)] a true⟩
def Ig (a:Lam)(b:Mu):=(NK a).seg ρ b
def x9 (a:List UInt8)(b:Bool)(c d:List CV)(e f:Int)(g:Mu):St:= .ret (mS [(4,LV.cv (CV.view [CV.str a,CV.bool b,CV.sl c,CV.sl d])),(5,bv e),(6,bv f)] [Ob.dead] true) g
def IT (a:List UInt8)(b:Bool)(c d:List CV)(e:Lam):SegD:=⟨m8,[(4,0),(5,0),(6,0)],cN 127 63,mS [(7,LV.cv (CV.view [CV.str a,CV.bool b,CV.sl c,CV.sl d]))] e true⟩
def Nx (a:List UInt8)(b:Bool)(c d:List CV)(e:Lam)(f:Mu):=(IT a b c d e).seg ρ f
def vZ (a:List UInt8)(b:Bool)(c d:List CV)(e f:Int)(g:Ob)(h:Mu):St:= .ret (mS [(4,LV.cv (CV.view [CV.str a,CV.bool b,CV.sl c,CV.sl d])),(5,bv e),(6,bv f)] [g] true) h
def ya (a:List UInt8)(b:Bool)(c d:List CV)(e f:Int)(g:Ob)(h:Mu):St:= .ret (mS [(4,LV.cv (CV.view [CV.str a,CV.bool b,CV.sl c,CV.sl d])),(5,bv e),(6,bv f)] [g] true) h
def xY (a:List UInt8)(b:Bool)(c d:List CV)(e f:Int)(g:Ob)(h:Mu):St:= .ret (mS [(4,LV.cv (CV.view [CV.str a,CV.bool b,CV.sl c,CV.sl d])),(5,bv e),(6,bv f)] [g] true) h
def Si (a:CV)(b:Lam)(c:Mu):St:= .panic a (mS [] b true) c
def JM (g a:Int)(b:List UInt8)(c:Bool)(d e:List CV)(f:Mu):(NJ g a [Ob.cells [LV.str b,LV.bool c,LV.osl d,LV.osl e]]).sK ρ f=cond (!decide (a=0)) (some (xZ b c d e g a f)) (some (x5 b c d e f)):=bx
def L1 (a b c d e f g):kS ρ m8 [.seq (cN 127 31)] [(4,0),(5,0),(6,0)] (xZ a b c d e f g)=some (tz a b c d e f g):=bx
def Ud (b:List UInt8)(c:Bool)(a d:List CV)(e:Ob)(f:Mu):(IT b c a d [e]).sK ρ f=some (vZ b c a d (a.length:Int) 0 e f):=bx
def Ka (a b c d e f g h):kS ρ m8 [] [(4,0),(5,0),(6,0)] (vZ a b c d e f g h)=some (ya a b c d e f g h):=bx
def JN (b:List UInt8)(c:Bool)(a d:List CV)(e:Mu):(NK [Ob.cells [LV.str b,LV.bool c,LV.osl a,LV.osl d]]).sK ρ e=cond (decide (300<(a.length:Int))) (some (x9 b c a d 0 8 e)) (opt (Nx ρ b c a d [Ob.dead] e) (kS ρ m8 [] [(4,0),(5,0),(6,0)])):=bx
def L4 (a b c d e f g):kS ρ m8 [] [(4,0),(5,0),(6,0)] (x9 a b c d e f g)=some (tz a b c d e f g):=bx
def L5 (a b c d e f g h):kS ρ m8 [] [(4,0),(5,0),(6,0)] (ya a b c d e f g h)=some (xY a b c d e f g h):=bx
def L3 (a b c d e):kS ρ m8 [.seq (cN 127 31)] [(4,0),(5,0),(6,0)] (x5 a b c d e)=opt (Ig ρ [Ob.cells [LV.str a,LV.bool b,LV.osl c,LV.osl d]] e) (kS ρ m8 [] [(4,0),(5,0),(6,0)]):=bx
def WC (b c a):(NI b c).sK ρ a=callK (ρ.call 152 [LV.cv (CV.ref (List.length a) 0 0)] (a++[[Ob.cells [LV.str b,LV.bool c,LV.cv (CV.v (.slice none 0 0)),LV.cv (CV.v (.slice none 0 0))]]])) (λh i=>opt (dq i) λd=>opt (b9 h) λj=>opt (bC j) λe=>opt (bI .i64 e.1) λk=>opt (bC e.2) λf=>opt (bI .i64 f.1) λl=>opt (bS f.2) λp=>kE [(0,[0,0,1,1])] d.2 λm=>opt (If ρ k l m d.1) (kS ρ m8 [.seq (cN 127 31)] [(4,0),(5,0),(6,0)])) (λn o=>opt (dq o) λg=>some (Si n g.2 g.1)):=bx
def LZ (a b c d e f g):kB ρ 127 m8 [] (tz a b c d e f g)=bB (fj (List.length g) (LV.ltup [LV.cv (CV.view [CV.str a,CV.bool b,CV.sl c,CV.sl d]),bv e,bv f])) (some (.ret (LV.ltup [LV.cv (CV.view [CV.str a,CV.bool b,CV.sl c,CV.sl d]),bv e,bv f]) g)):=bx
def L0 (a b c d e f h g):kB ρ 127 m8 [] (xY a b c d e f h g)=bB (fj (List.length g) (LV.ltup [LV.cv (CV.view [CV.str a,CV.bool b,CV.sl c,CV.sl d]),bv e,bv f])) (some (.ret (LV.ltup [LV.cv (CV.view [CV.str a,CV.bool b,CV.sl c,CV.sl d]),bv e,bv f]) g)):=bx
def ab7 (a b c):bN E ρ 127 [LV.str a,LV.bool b] c=callK (ρ.call 151 [LV.str a] c) (λf d=>opt (bI .i64 f) λe=>cond (!decide (e=0)) (some (.ret (LV.ltup [LV.cv (CV.view [CV.str a,CV.bool b,CV.sl [],CV.sl []]),bv 0,bv e]) d)) (opt (RK ρ a b d) (kB ρ 127 m8 []))) pP:=bx
def Ow (a:List UInt8)(b c:Nat)(d:List CV)(e f:Int):SegD:=⟨PB,[],cN 128 12,mS [(0,LV.str a),(2,LV.cv (CV.ref b c 0)),(7,LV.cv (CV.sl d)),(8,bv e),(9,bv f)] []⟩
def qp (a:List UInt8)(b c:Nat)(d:List CV)(e f:Int)(g:Mu):=(Ow a b c d e f).loop ρ g
def qz (a:CV)(b:Mu):St:= .panic a (mS [] []) b
def yK (a:Mu):St:= .exit 0 (mS [] []) a
def J2 (e a b f g c d):(Ow e a b f g c).rK ρ d=cond (decide (c<g)) (opt (dr f c) λh=>bB (cY h) (cond (decide (0<c)) (opt (cD E.P 127 (b7 d a b) 0) λl=>opt (cx l) λm=>callK (ρ.call 129 [LV.cv m,LV.str e] d) (λn i=>opt (b9 n) λo=>opt (bC o) λj=>opt (bI .i64 j.1) λB=>opt (bC j.2) λk=>opt (cx k.1) λC=>opt (bS k.2) λD=>opt (jl (LV.cv h)) λp=>cond (!p) (opt (cD E.P 127 (b7 i a b) 0) λq=>opt (cx q) λr=>callK (ρ.call 87 [LV.cv h,LV.cv r,LV.bool false] i) (λs t=>opt (b9 s) λu=>opt (bS u) λF=>qp ρ e a b f g (IntKind.wrap .i64 (c+1)) t) (pX qz)) (qp ρ e a b f g (IntKind.wrap .i64 (c+1)) i)) (pX qz)) (opt (jl (LV.cv h)) λv=>cond (!v) (opt (cD E.P 127 (b7 d a b) 0) λw=>opt (cx w) λx=>callK (ρ.call 87 [LV.cv h,LV.cv x,LV.bool false] d) (λy z=>opt (b9 y) λA=>opt (bS A) λG=>qp ρ e a b f g (IntKind.wrap .i64 (c+1)) z) (pX qz)) (qp ρ e a b f g (IntKind.wrap .i64 (c+1)) d)))) (some (yK d)):=bx
def MV (a):kB ρ 128 PB [.block 0] (yK a)=some (.ret (LV.ltup []) a):=bx
def ab8 (b a c d e):bN E ρ 128 [LV.str b,LV.cv (CV.sl a),LV.cv (CV.ref c d 0)] e=opt (qp ρ b c d a (a.length:Int) 0 e) (kB ρ 128 PB [.block 0]):=bx
def ab9 (a b c g):bN E ρ 129 [LV.cv (CV.tref a b 130 2),LV.str c] g=callK (ρ.call 153 [LV.cv (CV.tref a b 130 2)] g) (λh e=>opt (b9 h) λi=>opt (bS i) λk=>opt (gh E.P 128 (b7 e a b) 1) λf=>opt (gv f.1) λd=>bB ((Nat.beq 1 1&&small (d.length+c.length))&&ee 1 d) (bB (dl (a+1) (d++dg c)) (opt (du E.P 128 (b7 (cq e a b f.2) a b) 1 (LV.osl (d++dg c))) λj=>some (.ret (LV.ltup [bv (c.length:Int),LV.cv (CV.v (.nilIface))]) (cq (cq e a b f.2) a b j))))) pP:=bx
def aca (a b c g):bN E ρ 130 [LV.cv (CV.tref a b 130 2),LV.int .u8 c] g=callK (ρ.call 153 [LV.cv (CV.tref a b 130 2)] g) (λh d=>opt (b9 h) λi=>opt (bS i) λk=>opt (gh E.P 128 (b7 d a b) 1) λe=>opt (gv e.1) λf=>bB (ef 1 f [CV.int .u8 c]) (bB (dl (a+1) (f++[CV.int .u8 c])) (opt (du E.P 128 (b7 (cq d a b e.2) a b) 1 (LV.osl (f++[CV.int .u8 c]))) λj=>some (.ret (LV.cv (CV.v (.nilIface))) (cq (cq d a b e.2) a b j))))) pP:=bx
def NL (a:CV)(b c:Int)(d:List UInt8):SegD:=⟨PC,[(2,0),(3,0)],cN 134 15,mS [(2,LV.loc 0 0),(4,LV.cv a)] [Ob.cells [bv b,bv c,LV.str d]]⟩
def RL (a:CV)(b c:Int)(d:List UInt8)(e:Mu):=(NL a b c d).seg ρ e
def yb (a:Bool)(b c:Int)(d:List UInt8)(e:Mu):St:= .ret (mS [(2,LV.loc 0 0),(3,LV.bool a)] [Ob.cells [bv b,bv c,LV.str d]]) e
def WD (a g h i b):(NL a g h i).sK ρ b=opt (jk (LV.cv a)) λj=>bB (!j) (opt (f8 (LV.cv (jf a))) λk=>opt (bC k) λc=>opt (cf (LV.cv c.1)) λq=>opt (bC c.2) λd=>opt (ce (LV.cv d.1)) λr=>opt (bC d.2) λe=>opt (cR (LV.cv e.1)) λl=>opt (bC e.2) λf=>opt (cR (LV.cv f.1)) λs=>opt (bS f.2) λt=>opt (dr l 0) λm=>jo (LV.cv m) λn o p=>some (yb true n o p b)):=bx
def L6 (a b c d e):kB ρ 134 PC [] (yb a b c d e)=some (.ret (LV.ltup [LV.cv (CV.agg [bD b,bD c,CV.str d]),LV.bool a]) e):=bx
def acb (b c):bN E ρ 134 [LV.str b] c=callK (ρ.call 127 [LV.str b,LV.bool false] c) (λg a=>opt (b9 g) λh=>opt (bC h) λd=>opt (cx d.1) λi=>opt (bC d.2) λe=>opt (bI .i64 e.1) λj=>opt (bC e.2) λf=>opt (bI .i64 f.1) λk=>opt (bS f.2) λl=>cond (!decide (k=0)) (some (.ret (LV.ltup [LV.cv (CV.agg [bD 0,bD 0,CV.str []]),LV.bool false]) a)) (cond (!decide (j=1)) (some (.ret (LV.ltup [LV.cv (CV.agg [bD 0,bD 0,CV.str []]),LV.bool false]) a)) (opt (RL ρ i 0 0 ([]:List UInt8) a) (kB ρ 134 PC [])))) pP:=bx
def acd (a b):bN E ρ 135 [LV.int .u8 a] b=cond (decide (97<=a)) (cond (decide (a<=122)) (some (.ret (LV.bool true) b)) (cond (decide (65<=a)) (some (.ret (LV.bool (decide (a<=90))) b)) (some (.ret (LV.bool false) b)))) (cond (decide (65<=a)) (some (.ret (LV.bool (decide (a<=90))) b)) (some (.ret (LV.bool false) b))):=bx
def ace (a b):bN E ρ 138 [LV.int .u8 a] b=callK (ρ.call 135 [LV.int .u8 a] b) (λe c=>opt (ce e) λf=>cond (f) (some (.ret (LV.bool true) c)) (callK (ρ.call 160 [LV.int .u8 a] c) (λg d=>opt (ce g) λh=>cond (h) (some (.ret (LV.bool true) d)) (some (.ret (LV.bool (decide (a=95))) d))) pP)) pP:=bx
def Cw (a b:Nat)(c:Int):SegD:=⟨pp,[(4,0)],cN 139 7,mS [(0,LV.cv (CV.ref a b 0)),(1,bv c)] []⟩
def Ny (a b:Nat)(c:Int)(d:Mu):=(Cw a b c).seg ρ d
def Cy (a b:Nat)(c:Int)(d:CV):SegD:=⟨pp,[],cN 139 60,mS [(0,LV.cv (CV.ref a b 0)),(1,bv c),(9,LV.cv d)] []⟩
def Aj (a b:Nat)(c:Int)(d:CV)(e:Mu):=(Cy a b c d).loop ρ e
def rx (a:CV)(b:Mu):St:= .ret (mS [(4,LV.cv a)] []) b
def Cx (a b:Nat)(c:Int)(d:CV)(e:Int):SegD:=⟨pp,[(0,0),(1,0),(9,0)],cN 139 483,mS [(0,LV.cv (CV.ref a b 0)),(1,bv c),(9,LV.cv d),(10,bv e)] []⟩
def Yv (a b:Nat)(c:Int)(d:CV)(e:Int)(f:Mu):=(Cx a b c d e).seg ρ f
def v8 (a b:Nat)(c d e:Int)(f:List UInt8)(g:List CV)(h:Mu):St:= .norm (mS [(0,LV.cv (CV.ref a b 0)),(1,bv c),(9,LV.cv (CV.view [bD d,bD e,CV.str f,CV.sl g]))] []) h
def wa (a:CV)(b:Mu):St:= .panic a (mS [] []) b
def mE (a:CV)(b:Mu):St:= .panic a (mS [] []) b
def v7 (a:CV)(b:Mu):St:= .ret (mS [(4,LV.cv a)] []) b
def rj (a:CV)(b:Mu):St:= .panic a (mS [] []) b
def Uf (a b e c f d):(Cx a b e c f).sK ρ d=opt (cD E.P 3 (b7 d a b) 1) λh=>opt (bI .i64 h) λi=>opt (du E.P 3 (b7 d a b) 1 (bv (IntKind.wrap .i64 (i+1)))) λj=>callK (ρ.call 139 [LV.cv (CV.ref a b 0),bv (IntKind.wrap .i64 (e+1))] (cq d a b j)) (λk l=>opt (cx k) λg=>bB (cY c) (bB (cY g) (bB (noB c&&true) (some (v8 a b e f 0 ([]:List UInt8) [c,g] l))))) (pX wa):=bx
def Kd (a b c d e f g h):kR ρ pp [.block 2] [] (cN 139 60) (v8 a b c d e f g h)=Aj ρ a b c (CV.view [bD d,bD e,CV.str f,CV.sl g]) h:=bx
def Ke (a b):kR ρ pp [.block 2] [] (cN 139 60) (wa a b)=some (mE a b):=bx
def Ut (a b c d e):(Cy a b c d).rK ρ e=callK (ρ.call 164 [LV.cv (CV.ref a b 0)] e) (λi j=>opt (cf i) λk=>callK (ρ.call 163 [bv c,LV.str k] j) (λl f=>opt (b9 l) λm=>opt (bC m) λg=>opt (bI .i64 g.1) λn=>opt (bC g.2) λh=>opt (ce h.1) λo=>opt (bS h.2) λp=>cond (!o) (some (rx d f)) (opt (Yv ρ a b c d n f) (kR ρ pp [.block 2] [] (cN 139 60)))) (pX mE)) (pX mE):=bx
def Kz (a b):kS ρ pp [.block 1] [(4,0)] (rx a b)=some (v7 a b):=bx
def KA (a b):kS ρ pp [.block 1] [(4,0)] (mE a b)=some (rj a b):=bx
def Ue (a b c d):(Cw a b c).sK ρ d=callK (ρ.call 165 [LV.cv (CV.ref a b 0),bv c] d) (λe f=>opt (cx e) λg=>opt (Aj ρ a b c g f) (kS ρ pp [.block 1] [(4,0)])) (pX rj):=bx
def Kb (a b):kB ρ 139 pp [] (v7 a b)=some (.ret (LV.cv a) b):=bx
def Kc (a b):kB ρ 139 pp [] (rj a b)=bB (below (List.length b) a) (some (.panic a b)):=bx
def acf (a b c d):bN E ρ 139 [LV.cv (CV.ref a b 0),bv c] d=cond (decide (c=10)) (callK (ρ.call 161 [LV.cv (CV.ref a b 0)] d) (λo p=>opt (cx o) λq=>some (.ret (LV.cv q) p)) pP) (cond (decide (c=9)) (callK (ρ.call 161 [LV.cv (CV.ref a b 0)] d) (λr s=>opt (cx r) λe=>callK (ρ.call 162 [LV.cv (CV.ref a b 0),LV.str [42,42]] s) (λt i=>opt (ce t) λu=>cond (u) (callK (ρ.call 139 [LV.cv (CV.ref a b 0),bv 9] i) (λv w=>opt (cx v) λj=>bB (cY e) (bB (cY j) (bB (noB e&&true) (some (.ret (LV.cv (CV.view [bD 9,bD 0,CV.str [],CV.sl [e,j]])) w))))) pP) (some (.ret (LV.cv e) i))) pP) pP) (cond (decide (c=4)) (callK (ρ.call 162 [LV.cv (CV.ref a b 0),LV.str [46,78,79,84,46]] d) (λx k=>opt (ce x) λy=>cond (y) (callK (ρ.call 139 [LV.cv (CV.ref a b 0),bv 4] k) (λz A=>opt (cx z) λh=>bB (cY h) (bB (noB h&&true) (some (.ret (LV.cv (CV.view [bD 8,bD 0,CV.str [],CV.sl [h]])) A)))) pP) (callK (ρ.call 139 [LV.cv (CV.ref a b 0),bv 5] k) (λB C=>opt (cx B) λD=>some (.ret (LV.cv D) C)) pP)) pP) (cond (decide (c=5)) (callK (ρ.call 139 [LV.cv (CV.ref a b 0),bv 6] d) (λF G=>opt (cx F) λf=>callK (ρ.call 164 [LV.cv (CV.ref a b 0)] G) (λH I=>opt (cf H) λJ=>callK (ρ.call 163 [bv c,LV.str J] I) (λK g=>opt (b9 K) λL=>opt (bC L) λl=>opt (bI .i64 l.1) λM=>opt (bC l.2) λm=>opt (ce m.1) λN=>opt (bS m.2) λU=>cond (N) (opt (cD E.P 3 (b7 g a b) 1) λO=>opt (bI .i64 O) λQ=>opt (du E.P 3 (b7 g a b) 1 (bv (IntKind.wrap .i64 (Q+1)))) λR=>callK (ρ.call 139 [LV.cv (CV.ref a b 0),bv 6] (cq g a b R)) (λS T=>opt (cx S) λn=>bB (cY f) (bB (cY n) (bB (noB f&&true) (some (.ret (LV.cv (CV.view [bD M,bD 0,CV.str [],CV.sl [f,n]])) T))))) pP) (some (.ret (LV.cv f) g))) pP) pP) pP) (opt (Ny ρ a b c d) (kB ρ 139 pp []))))):=bx
def Ox (a:List CV)(b:FuncId)(c d:Int):SegD:=⟨Fa,[],cN 140 52,mS [(0,LV.cv (CV.sl a)),(1,LV.cv (CV.clo b [])),(7,bv c),(8,bv d)] []⟩
def ss (a:List CV)(b:FuncId)(c d:Int)(e:Mu):=(Ox a b c d).loop ρ e
def yL (a:Int)(b:Mu):St:= .ret (mS [(4,bv a)] []) b
def Sw (a:CV)(b:Mu):St:= .panic a (mS [] []) b
def yM (a:Mu):St:= .exit 0 (mS [] []) a
def xb (b c d a e):(Ox b c d a).rK ρ e=cond (decide (a<d)) (opt (dr b a) λf=>bB (cY f) (callK (ρ.call c [LV.cv f] e) (λh g=>opt (ce h) λi=>cond (i) (some (yL a g)) (ss ρ b c d (IntKind.wrap .i64 (a+1)) g)) (pX Sw))) (some (yM e)):=bx
def MW (a b):kB ρ 140 Fa [.block 0,.seq (cN 140 7)] (yL a b)=some (.ret (bv a) b):=bx
def MX (a):kB ρ 140 Fa [.block 0,.seq (cN 140 7)] (yM a)=some (.ret (bv (-1)) a):=bx
def acg (a b c):bN E ρ 140 [LV.cv (CV.sl a),LV.cv (CV.clo b [])] c=opt (ss ρ a b (a.length:Int) 0 c) (kB ρ 140 Fa [.block 0,.seq (cN 140 7)]):=bx
def ach (a b):bN E ρ 151 [LV.str a] b=cond (decide (1320<(a.length:Int))) (some (.ret (bv 8) b)) (callK (ρ.call 167 [LV.str a] b) (λd c=>opt (ce d) λe=>cond (!e) (some (.ret (bv 3) c)) (some (.ret (bv 0) c))) pP):=bx
def Oy (a b:Nat)(c d:Int):SegD:=⟨ra,[(0,0),(2,0),(3,0),(6,0)],cN 152 28,mS [(0,LV.cv (CV.ref a b 0)),(2,bv c),(3,LV.loc 0 0),(6,LV.lclo 168 [LV.loc 0 0])] [Ob.cells [bv d]]⟩
def Ix (a b:Nat)(c d:Int)(e:Mu):=(Oy a b c d).loop ρ e
def Jc (a b:Nat)(c d:Int):SegD:=⟨ra,[(0,0),(2,0),(3,0),(6,0)],cN 152 448,mS [(0,LV.cv (CV.ref a b 0)),(2,bv c),(3,LV.loc 0 0),(6,LV.lclo 168 [LV.loc 0 0])] [Ob.cells [bv d]]⟩
def Fd (a b:Nat)(c d:Int)(e:Mu):=(Jc a b c d).loop ρ e
def ry (a b:Nat)(c d:Int)(e:Mu):St:= .exit 2 (mS [(0,LV.cv (CV.ref a b 0)),(2,bv c),(3,LV.loc 0 0),(6,LV.lclo 168 [LV.loc 0 0])] [Ob.cells [bv d]]) e
def yN (a b:Int)(c:Mu):St:= .ret (mS [(2,bv a),(3,LV.loc 0 0),(6,LV.lclo 168 [LV.loc 0 0])] [Ob.cells [bv b]]) c
def NM (a b:Nat)(c d:Int):SegD:=⟨ra,[(0,0),(2,0),(3,0),(6,0)],cN 152 227,mS [(0,LV.cv (CV.ref a b 0)),(2,bv c),(3,LV.loc 0 0),(6,LV.lclo 168 [LV.loc 0 0])] [Ob.cells [bv d]]⟩
def Ih (a b:Nat)(c d:Int)(e:Mu):=(NM a b c d).seg ρ e
def yc (a b:Nat)(c d:Int)(e:Mu):St:= .norm (mS [(0,LV.cv (CV.ref a b 0)),(2,bv c),(3,LV.loc 0 0),(6,LV.lclo 168 [LV.loc 0 0])] [Ob.cells [bv d]]) e
def yd (a:CV)(b c:Int)(d:Mu):St:= .panic a (mS [(2,bv b),(3,LV.loc 0 0),(6,LV.lclo 168 [LV.loc 0 0])] [Ob.cells [bv c]]) d
def yO (a:CV)(b c:Int)(d:Mu):St:= .panic a (mS [(2,bv b),(3,LV.loc 0 0),(6,LV.lclo 168 [LV.loc 0 0])] [Ob.cells [bv c]]) d
def G5 (a b c e d):(Jc a b c e).rK ρ d=opt (cD E.P 9 (b7 d a b) 0) λf=>opt (cf f) λg=>cond (decide (c<(g.length:Int))) (opt (cD E.P 9 (b7 d a b) 0) λh=>opt (cf h) λi=>opt (km i c) λj=>cond (decide ((j.toNat:Int)=32)) (Fd ρ a b (IntKind.wrap .i64 (c+1)) e d) (some (ry a b c e d))) (some (ry a b c e d)):=bx
def JO (a b c d k):(NM a b c d).sK ρ k=callK (ρ.call 169 [LV.cv (CV.ref a b 0),bv c] k) (λn e=>opt (b9 n) λo=>opt (bC o) λl=>jo l.1 λf g h=>opt (bC l.2) λm=>opt (bI .i64 m.1) λp=>opt (bS m.2) λt=>opt (gh E.P 35 (b7 e a b) 2) λi=>opt (gv i.1) λj=>bB (ef 3 j [CV.agg [bD f,bD g,CV.str h]]) (bB (dl (a+1) (j++[CV.agg [bD f,bD g,CV.str h]])) (opt (du E.P 35 (b7 (cq e a b i.2) a b) 2 (LV.osl (j++[CV.agg [bD f,bD g,CV.str h]]))) λq=>some (yc a b p d (cq (cq e a b i.2) a b q))))) (λr s=>some (yd r c d s)):=bx
def L7 (a b c d e):kR ρ ra [.block 1] [(0,0),(2,0),(3,0),(6,0)] (cN 152 28) (yc a b c d e)=Ix ρ a b c d e:=bx
def L8 (a b c d):kR ρ ra [.block 1] [(0,0),(2,0),(3,0),(6,0)] (cN 152 28) (yd a b c d)=some (yO a b c d):=bx
def KB (b c d e a):kR ρ ra [.block 2,.seq (cN 152 113),.block 1] [(0,0),(2,0),(3,0),(6,0)] (cN 152 28) (ry b c d e a)=opt (cD E.P 9 (b7 a b c) 0) λf=>opt (cf f) λg=>cond (decide ((g.length:Int)<=d)) (some (yN 0 0 a)) (opt (Ih ρ b c d e a) (kR ρ ra [.block 1] [(0,0),(2,0),(3,0),(6,0)] (cN 152 28))):=bx
def W6 (a b c d e):(Oy a b c d).rK ρ e=opt (Fd ρ a b c d e) (kR ρ ra [.block 2,.seq (cN 152 113),.block 1] [(0,0),(2,0),(3,0),(6,0)] (cN 152 28)):=bx
def MY (d e a):nf E.P ρ ra [.block 0] (yN d e a) (Ft E.P ρ 6 (H1 E.P 152))=opt (ρ.dcall 168 none [LV.cv (CV.ref (List.length a) 0 0)] (a++[[Ob.cells [bv e]]])) λf=>opt (dq f) λb=>opt (opt (opt (cD E.P 25 (bQ b.2 0) 0) λg=>some [g]) λh=>some (bv d::h)) λc=>bB (mJ (eB c)) (bB (fj (List.length b.1) (eB c)) (some (.ret (eB c) b.1))):=bx
def MZ (d e f a):nf E.P ρ ra [.block 0] (yO d e f a) (Ft E.P ρ 6 (H1 E.P 152))=opt (ρ.dcall 168 (some d) [LV.cv (CV.ref (List.length a) 0 0)] (a++[[Ob.cells [bv f]]])) λg=>opt (dq g) λb=>opt (opt (opt (cD E.P 25 (bQ b.2 0) 0) λh=>some [h]) λi=>some (bv e::i)) λc=>bB (mJ (eB c)) (bB (fj (List.length b.1) (eB c)) (some (.ret (eB c) b.1))):=bx
def aci (a b c):bN E ρ 152 [LV.cv (CV.ref a b 0)] c=opt (Ix ρ a b 0 0 c) λd=>nf E.P ρ ra [.block 0] d (Ft E.P ρ 6 (H1 E.P 152)):=bx
def acj (a b):bN E ρ 160 [LV.int .u8 a] b=cond (decide (48<=a)) (some (.ret (LV.bool (decide (a<=57))) b)) (some (.ret (LV.bool false) b)):=bx
def NO (a b:Nat):SegD:=⟨jD,[(2,0)],cN 161 7,mS [(0,LV.cv (CV.ref a b 0))] []⟩
def RM (a b:Nat)(c:Mu):=(NO a b).seg ρ c
def lX (a b:Int)(c:List UInt8)(d:List CV)(e:Mu):St:= .ret (mS [(2,LV.cv (CV.view [bD a,bD b,CV.str c,CV.sl d]))] []) e
def tA (a:CV)(b:Mu):St:= .panic a (mS [] []) b
def IU (a b:Nat):SegD:=⟨jD,[(2,0)],cN 161 63,mS [(0,LV.cv (CV.ref a b 0))] []⟩
def uD (a b:Nat)(c:Mu):=(IU a b).seg ρ c
def IV (a b:Nat)(c d:CV):SegD:=⟨jD,[(0,0),(4,0)],cN 161 4075,mS [(0,LV.cv (CV.ref a b 0)),(4,LV.cv c),(5,LV.cv d)] []⟩
def EY (a b:Nat)(c d:CV)(e:Mu):=(IV a b c d).seg ρ e
def Dh (a b:Int)(c:List UInt8)(d:List CV)(e:Mu):St:= .ret (mS [(2,LV.cv (CV.view [bD a,bD b,CV.str c,CV.sl d]))] []) e
def rl (a:CV)(b:Mu):St:= .panic a (mS [] []) b
def rk (a b:Int)(c:List UInt8)(d:List CV)(e:Mu):St:= .ret (mS [(2,LV.cv (CV.view [bD a,bD b,CV.str c,CV.sl d]))] []) e
def io (a:CV)(b:Mu):St:= .panic a (mS [] []) b
def IW (a b:Nat)(c:CV):SegD:=⟨jD,[(2,0)],cN 161 255,mS [(0,LV.cv (CV.ref a b 0)),(4,LV.cv c)] []⟩
def Yw (a b:Nat)(c:CV)(d:Mu):=(IW a b c).seg ρ d
def Di (a b:Int)(c:List UInt8)(d:List CV)(e:Mu):St:= .ret (mS [(2,LV.cv (CV.view [bD a,bD b,CV.str c,CV.sl d]))] []) e
def rm (a:CV)(b:Mu):St:= .panic a (mS [] []) b
def Uh (c d a b e):(IV c d a b).sK ρ e=callK (ρ.call 185 [LV.cv (CV.ref c d 0),LV.str [41]] e) (λf g=>opt (b9 f) λh=>opt (bS h) λi=>bB (cY a) (bB (cY b) (bB (noB a&&true) (some (Dh 4 0 ([]:List UInt8) [a,b] g))))) (pX rl):=bx
def Kg (a b c d e):kS ρ jD [.seq (cN 161 255)] [(2,0)] (Dh a b c d e)=some (rk a b c d e):=bx
def Kh (a b):kS ρ jD [.seq (cN 161 255)] [(2,0)] (rl a b)=some (io a b):=bx
def Ui (b c a d):(IW b c a).sK ρ d=callK (ρ.call 185 [LV.cv (CV.ref b c 0),LV.str [41]] d) (λe f=>opt (b9 e) λg=>opt (bS g) λh=>bB (cY a) (bB (noB a&&true) (some (Di 5 0 ([]:List UInt8) [a] f)))) (pX rm):=bx
def Ki (a b c d e):kS ρ jD [] [(2,0)] (Di a b c d e)=some (rk a b c d e):=bx
def Kj (a b):kS ρ jD [] [(2,0)] (rm a b)=some (io a b):=bx
def Ug (a b e):(IU a b).sK ρ e=callK (ρ.call 95 [LV.cv (CV.ref a b 0)] e) (λi j=>opt (cx i) λc=>callK (ρ.call 162 [LV.cv (CV.ref a b 0),LV.str [44]] j) (λk f=>opt (ce k) λl=>cond (l) (callK (ρ.call 95 [LV.cv (CV.ref a b 0)] f) (λm n=>opt (cx m) λd=>callK (ρ.call 76 [LV.cv c] n) (λo g=>opt (ce o) λp=>cond (!p) (callK (ρ.call 183 [] g) (λq r=>opt (b9 q) λs=>opt (bS s) λy=>opt (EY ρ a b c d r) (kS ρ jD [.seq (cN 161 255)] [(2,0)])) (pX io)) (callK (ρ.call 76 [LV.cv d] g) (λt h=>opt (ce t) λu=>cond (!u) (callK (ρ.call 183 [] h) (λv w=>opt (b9 v) λx=>opt (bS x) λz=>opt (EY ρ a b c d w) (kS ρ jD [.seq (cN 161 255)] [(2,0)])) (pX io)) (opt (EY ρ a b c d h) (kS ρ jD [.seq (cN 161 255)] [(2,0)]))) (pX io))) (pX io)) (pX io)) (opt (Yw ρ a b c f) (kS ρ jD [] [(2,0)]))) (pX io)) (pX io):=bx
def Kf (a b c d e):kS ρ jD [] [(2,0)] (rk a b c d e)=some (lX a b c d e):=bx
def WE (a b c):(NO a b).sK ρ c=opt (cD E.P 35 (b7 c a b) 0) λh=>opt (cR h) λi=>opt (cD E.P 3 (b7 c a b) 1) λj=>opt (bI .i64 j) λk=>opt (dr i k) λl=>jo (LV.cv l) λf m d=>opt (cD E.P 3 (b7 c a b) 1) λn=>opt (bI .i64 n) λo=>opt (du E.P 3 (b7 c a b) 1 (bv (IntKind.wrap .i64 (o+1)))) λe=>cond (decide (f=1)) (some (lX 0 m d [] (cq c a b e))) (cond (decide (f=0)) (callK (ρ.call 162 [LV.cv (CV.ref a b 0),LV.str [40]] (cq c a b e)) (λp g=>opt (ce p) λq=>cond (q) (callK (ρ.call 184 [LV.cv (CV.ref a b 0)] g) (λr s=>opt (cR r) λt=>some (lX 2 0 d t s)) (pX tA)) (cond (decide (f=0)) (some (lX 1 0 d [] g)) (cond (!decide (d=([40]:List UInt8))) (callK (ρ.call 183 [] g) (λu v=>opt (b9 u) λw=>opt (bS w) λA=>opt (uD ρ a b v) (kS ρ jD [] [(2,0)])) (pX tA)) (opt (uD ρ a b g) (kS ρ jD [] [(2,0)]))))) (pX tA)) (cond (decide (f=0)) (some (lX 1 0 d [] (cq c a b e))) (cond (!decide (d=([40]:List UInt8))) (callK (ρ.call 183 [] (cq c a b e)) (λx y=>opt (b9 x) λz=>opt (bS z) λB=>opt (uD ρ a b y) (kS ρ jD [] [(2,0)])) (pX tA)) (opt (uD ρ a b (cq c a b e)) (kS ρ jD [] [(2,0)]))))):=bx
def L9 (a b c d e):kB ρ 161 jD [] (lX a b c d e)=some (.ret (LV.cv (CV.view [bD a,bD b,CV.str c,CV.sl d])) e):=bx
def ack (a b c):bN E ρ 161 [LV.cv (CV.ref a b 0)] c=opt (cD E.P 3 (b7 c a b) 1) λd=>opt (bI .i64 d) λe=>opt (cD E.P 35 (b7 c a b) 0) λf=>opt (cR f) λg=>cond (decide ((g.length:Int)<=e)) (callK (ρ.call 183 [] c) (λh i=>opt (b9 h) λj=>opt (bS j) λk=>opt (RM ρ a b i) (kB ρ 161 jD [])) pP) (opt (RM ρ a b c) (kB ρ 161 jD [])):=bx
def NP (a b:Nat):SegD:=⟨PD,[(4,0)],cN 162 7,mS [(0,LV.cv (CV.ref a b 0))] []⟩
def RN (a b:Nat)(c:Mu):=(NP a b).seg ρ c
def ye (a:Bool)(b:Mu):St:= .ret (mS [(4,LV.bool a)] []) b
def WF (a b c):(NP a b).sK ρ c=opt (cD E.P 3 (b7 c a b) 1) λd=>opt (bI .i64 d) λe=>opt (du E.P 3 (b7 c a b) 1 (bv (IntKind.wrap .i64 (e+1)))) λf=>some (ye true (cq c a b f)):=bx
def Ma (a b):kB ρ 162 PD [] (ye a b)=some (.ret (LV.bool a) b):=bx
def acl (a b c d):bN E ρ 162 [LV.cv (CV.ref a b 0),LV.str c] d=callK (ρ.call 164 [LV.cv (CV.ref a b 0)] d) (λf e=>opt (cf f) λg=>cond (!decide (g=c)) (some (.ret (LV.bool false) e)) (opt (RN ρ a b e) (kB ρ 162 PD []))) pP:=bx
def Oz (a:Int)(b:List UInt8)(c:List CV)(d:Int):SegD:=⟨It,[],cN 163 52,mS [(0,bv a),(1,LV.str b),(8,LV.cv (CV.agg c)),(9,bv d)] []⟩
def uJ (a:Int)(b:List UInt8)(c:List CV)(d:Int)(e:Mu):=(Oz a b c d).loop ρ e
def yP (a:Int)(b:Bool)(c:Mu):St:= .ret (mS [(4,bv a),(5,LV.bool b)] []) c
def yQ (a:Mu):St:= .exit 0 (mS [] []) a
def J3 (c d e a b):(Oz c d e a).rK ρ b=cond (decide (a<25)) (bB (fc a 25) (opt (il E.P 113 e (Int.toNat a*5)) λg=>fW (LV.cv g) λh j i k f=>cond (decide (i=2)) (cond (!decide (f=([]:List UInt8))) (cond (decide (h=c)) (cond (decide (f=d)) (some (yP a true b)) (uJ ρ c d e (IntKind.wrap .i64 (a+1)) b)) (uJ ρ c d e (IntKind.wrap .i64 (a+1)) b)) (uJ ρ c d e (IntKind.wrap .i64 (a+1)) b)) (uJ ρ c d e (IntKind.wrap .i64 (a+1)) b))) (some (yQ b)):=bx
def M0 (a b c):kB ρ 163 It [.block 0,.seq (cN 163 7)] (yP a b c)=some (.ret (LV.ltup [bv a,LV.bool b]) c):=bx
def M1 (a):kB ρ 163 It [.block 0,.seq (cN 163 7)] (yQ a)=some (.ret (LV.ltup [bv 0,LV.bool false]) a):=bx
def acm (a b c):bN E ρ 163 [bv a,LV.str b] c=callK (ρ.call 69 [] c) (λd e=>opt (fJ d) λf=>opt (uJ ρ a b f 0 e) (kB ρ 163 It [.block 0,.seq (cN 163 7)])) pP:=bx
def acn (b c a):bN E ρ 164 [LV.cv (CV.ref b c 0)] a=opt (cD E.P 3 (b7 a b c) 1) λd=>opt (bI .i64 d) λe=>opt (cD E.P 35 (b7 a b c) 0) λf=>opt (cR f) λg=>cond (decide (e<(g.length:Int))) (opt (cD E.P 35 (b7 a b c) 0) λh=>opt (cR h) λi=>opt (cD E.P 3 (b7 a b c) 1) λj=>opt (bI .i64 j) λk=>opt (dr i k) λl=>jo (LV.cv l) λm t u=>cond (decide (m=2)) (opt (cD E.P 35 (b7 a b c) 0) λn=>opt (cR n) λo=>opt (cD E.P 3 (b7 a b c) 1) λp=>opt (bI .i64 p) λq=>opt (dr o q) λr=>jo (LV.cv r) λv w s=>some (.ret (LV.str s) a)) (some (.ret (LV.str []) a))) (some (.ret (LV.str []) a)):=bx
def Fo (a b:Nat)(c:Int):SegD:=⟨Fb,[(0,0),(1,0)],cN 165 53,mS [(0,LV.cv (CV.ref a b 0)),(1,bv c)] []⟩
def RO (a b:Nat)(c:Int)(d:Mu):=(Fo a b c).seg ρ d
def yf (a b:Int)(c:List UInt8)(d:List CV)(e:Mu):St:= .ret (mS [(4,LV.cv (CV.view [bD a,bD b,CV.str c,CV.sl d]))] []) e
def tB (a:CV)(b:Mu):St:= .panic a (mS [] []) b
def yg (a b:Nat)(c:Int)(d:Mu):St:= .norm (mS [(0,LV.cv (CV.ref a b 0)),(1,bv c)] []) d
def JP (a b d e):(Fo a b d).sK ρ e=callK (ρ.call 162 [LV.cv (CV.ref a b 0),LV.str [45]] e) (λg f=>opt (ce g) λh=>cond (h) (callK (ρ.call 139 [LV.cv (CV.ref a b 0),bv 8] f) (λi j=>opt (cx i) λc=>bB (cY c) (bB (noB c&&true) (some (yf 7 0 ([]:List UInt8) [c] j)))) (pX tB)) (some (yg a b d f))) (pX tB):=bx
def Mb (a b c d e):kB ρ 165 Fb [.seq (cN 165 7)] (yf a b c d e)=some (.ret (LV.cv (CV.view [bD a,bD b,CV.str c,CV.sl d])) e):=bx
def Mc (a b):kB ρ 165 Fb [.seq (cN 165 7)] (tB a b)=bB (below (List.length b) a) (some (.panic a b)):=bx
def Md (a b c d):kB ρ 165 Fb [.seq (cN 165 7)] (yg a b c d)=callK (ρ.call 139 [LV.cv (CV.ref a b 0),bv (IntKind.wrap .i64 (c+1))] d) (λe f=>opt (cx e) λg=>some (.ret (LV.cv g) f)) pP:=bx
def aco (a b c d):bN E ρ 165 [LV.cv (CV.ref a b 0),bv c] d=cond (decide (c=7)) (callK (ρ.call 162 [LV.cv (CV.ref a b 0),LV.str [43]] d) (λg f=>opt (ce g) λh=>cond (h) (callK (ρ.call 139 [LV.cv (CV.ref a b 0),bv 8] f) (λi j=>opt (cx i) λe=>bB (cY e) (bB (noB e&&true) (some (.ret (LV.cv (CV.view [bD 6,bD 0,CV.str [],CV.sl [e]])) j)))) pP) (opt (RO ρ a b c f) (kB ρ 165 Fb [.seq (cN 165 7)]))) pP) (callK (ρ.call 139 [LV.cv (CV.ref a b 0),bv (IntKind.wrap .i64 (c+1))] d) (λk l=>opt (cx k) λm=>some (.ret (LV.cv m) l)) pP):=bx
def acp (a b):bN E ρ 167 [LV.str a] b=callK (ρ.call 131 [LV.str a,LV.cv (CV.clo 186 [])] b) (λc d=>opt (ce c) λe=>some (.ret (LV.bool (!e)) d)) pP:=bx
def Zh (b c a):i6 E ρ 168 none [LV.cv (CV.ref b c 0)] a=some a:=bx
def Zi (d a b c):i6 E ρ 168 (some (CV.iface 191 (CV.agg [bD d]))) [LV.cv (CV.ref a b 0)] c=opt (du E.P 25 (b7 c a b) 0 (bv d)) λe=>some (cq c a b e):=bx
def NQ (a b:Nat)(c d e f:Int)(g:List UInt8):SegD:=⟨iO,[(4,0),(5,0)],cN 169 15,mS [(0,LV.cv (CV.ref a b 0)),(1,bv c),(4,LV.loc 0 0),(6,LV.int .u8 d)] [Ob.cells [bv e,bv f,LV.str g]]⟩
def xR (a b:Nat)(c d e f:Int)(g:List UInt8)(h:Mu):=(NQ a b c d e f g).seg ρ h
def ff (a b c:Int)(d:List UInt8)(e:Mu):St:= .ret (mS [(4,LV.loc 0 0),(5,bv a)] [Ob.cells [bv b,bv c,LV.str d]]) e
def dB (a:CV)(b:Mu):St:= .panic a (mS [] []) b
def IX (a:List UInt8)(b c d:Int)(e:List UInt8):SegD:=⟨iO,[(0,0),(1,0),(4,0)],cN 169 31995,mS [(4,LV.loc 0 0),(14,LV.str a),(15,bv b)] [Ob.cells [bv c,bv d,LV.str e]]⟩
def nR (a:List UInt8)(b c d:Int)(e:List UInt8)(f:Mu):=(IX a b c d e).seg ρ f
def oB (a b c:Int)(d:List UInt8)(e:Mu):St:= .ret (mS [(4,LV.loc 0 0),(5,bv a)] [Ob.cells [bv b,bv c,LV.str d]]) e
def IY (a b:Nat)(c d e:Int)(f:List UInt8):SegD:=⟨iO,[(4,0),(5,0)],cN 169 63,mS [(0,LV.cv (CV.ref a b 0)),(1,bv c),(4,LV.loc 0 0)] [Ob.cells [bv d,bv e,LV.str f]]⟩
def uE (a b:Nat)(c d e:Int)(f:List UInt8)(g:Mu):=(IY a b c d e f).seg ρ g
def wb (a b c:Int)(d:List UInt8)(e:Mu):St:= .ret (mS [(4,LV.loc 0 0),(5,bv a)] [Ob.cells [bv b,bv c,LV.str d]]) e
def wc (a:CV)(b:Mu):St:= .panic a (mS [] []) b
def Uj (a b d e f c):(IX a b d e f).sK ρ c=cond (decide (a=([46,84,82,85,69,46]:List UInt8))) (some (oB b 1 5 a c)) (cond (decide (a=([46,70,65,76,83,69,46]:List UInt8))) (some (oB b 1 5 a c)) (some (oB b 2 0 a c))):=bx
def Kk (a b c d e):kS ρ iO [.block 0,.seq (cN 169 63)] [(4,0),(5,0)] (oB a b c d e)=some (ff a b c d e):=bx
def Uk (a b c g h i d):(IY a b c g h i).sK ρ d=callK (ρ.call 195 [LV.cv (CV.ref a b 0),bv c] d) (λj k=>opt (b9 j) λl=>opt (bC l) λe=>jo e.1 λm n o=>opt (bC e.2) λf=>opt (bI .i64 f.1) λp=>opt (bS f.2) λq=>some (wb p m n o k)) (pX wc):=bx
def Kl (a b c d e):kS ρ iO [] [(4,0),(5,0)] (wb a b c d e)=some (ff a b c d e):=bx
def Km (a b):kS ρ iO [] [(4,0),(5,0)] (wc a b)=some (dB a b):=bx
def WG (a b c d e f g k):(NQ a b c d e f g).sK ρ k=callK (ρ.call 189 [LV.cv (CV.ref a b 0),bv (IntKind.wrap .i64 (c+1))] k) (λQ R=>opt (b9 Q) λS=>opt (bC S) λl=>opt (bI .u8 l.1) λT=>opt (bC l.2) λm=>opt (bI .i64 m.1) λbf=>opt (bS m.2) λbg=>callK (ρ.call 135 [LV.int .u8 d] R) (λU n=>opt (ce U) λV=>cond (V) (callK (ρ.call 190 [LV.cv (CV.ref a b 0),bv c,LV.cv (CV.clo 138 [])] n) (λW o=>opt (b9 W) λX=>opt (bC X) λp=>opt (cf p.1) λj=>opt (bC p.2) λq=>opt (bI .i64 q.1) λr=>opt (bS q.2) λbh=>cond (decide (31<(j.length:Int))) (callK (ρ.call 191 [bv 4] o) (λY Z=>opt (b9 Y) λaa=>opt (bS aa) λbi=>callK (ρ.call 136 [LV.str j] Z) (λab ac=>opt (cf ab) λad=>some (ff r 0 0 ad ac)) (pX dB)) (pX dB)) (callK (ρ.call 136 [LV.str j] o) (λae af=>opt (cf ae) λag=>some (ff r 0 0 ag af)) (pX dB))) (pX dB)) (callK (ρ.call 160 [LV.int .u8 d] n) (λah h=>opt (ce ah) λai=>cond (ai) (callK (ρ.call 192 [LV.cv (CV.ref a b 0),bv c] h) (λaj ak=>opt (b9 aj) λal=>opt (bC al) λs=>jo s.1 λam an ao=>opt (bC s.2) λt=>opt (bI .i64 t.1) λap=>opt (bS t.2) λbj=>some (ff ap am an ao ak)) (pX dB)) (cond (decide (d=46)) (callK (ρ.call 160 [LV.int .u8 T] h) (λaq i=>opt (ce aq) λar=>cond (ar) (callK (ρ.call 192 [LV.cv (CV.ref a b 0),bv c] i) (λau av=>opt (b9 au) λaw=>opt (bC aw) λu=>jo u.1 λax ay az=>opt (bC u.2) λv=>opt (bI .i64 v.1) λaA=>opt (bS v.2) λbk=>some (ff aA ax ay az av)) (pX dB)) (cond (decide (d=46)) (callK (ρ.call 193 [LV.cv (CV.ref a b 0),bv c] i) (λaB w=>opt (b9 aB) λaC=>opt (bC aC) λx=>opt (cf x.1) λy=>opt (bC x.2) λz=>opt (bI .i64 z.1) λA=>opt (bC z.2) λB=>opt (ce B.1) λaD=>opt (bS B.2) λbl=>cond (!aD) (callK (ρ.call 191 [bv 7] w) (λaE aF=>opt (b9 aE) λaG=>opt (bS aG) λbm=>opt (nR ρ y A e f g aF) (kS ρ iO [.block 0,.seq (cN 169 63)] [(4,0),(5,0)])) (pX dB)) (opt (nR ρ y A e f g w) (kS ρ iO [.block 0,.seq (cN 169 63)] [(4,0),(5,0)]))) (pX dB)) (cond (decide (d=39)) (callK (ρ.call 194 [LV.cv (CV.ref a b 0),bv c] i) (λaH aI=>opt (b9 aH) λaJ=>opt (bC aJ) λC=>jo C.1 λaK aL aM=>opt (bC C.2) λD=>opt (bI .i64 D.1) λaN=>opt (bS D.2) λbn=>some (ff aN aK aL aM aI)) (pX dB)) (cond (decide (d=34)) (callK (ρ.call 194 [LV.cv (CV.ref a b 0),bv c] i) (λaO aP=>opt (b9 aO) λaQ=>opt (bC aQ) λE=>jo E.1 λaR aS aT=>opt (bC E.2) λF=>opt (bI .i64 F.1) λaU=>opt (bS F.2) λbo=>some (ff aU aR aS aT aP)) (pX dB)) (opt (uE ρ a b c e f g i) (kS ρ iO [] [(4,0),(5,0)])))))) (pX dB)) (cond (decide (d=46)) (callK (ρ.call 193 [LV.cv (CV.ref a b 0),bv c] h) (λaV G=>opt (b9 aV) λaW=>opt (bC aW) λH=>opt (cf H.1) λI=>opt (bC H.2) λJ=>opt (bI .i64 J.1) λK=>opt (bC J.2) λL=>opt (ce L.1) λaX=>opt (bS L.2) λbp=>cond (!aX) (callK (ρ.call 191 [bv 7] G) (λaY aZ=>opt (b9 aY) λa0=>opt (bS a0) λbq=>opt (nR ρ I K e f g aZ) (kS ρ iO [.block 0,.seq (cN 169 63)] [(4,0),(5,0)])) (pX dB)) (opt (nR ρ I K e f g G) (kS ρ iO [.block 0,.seq (cN 169 63)] [(4,0),(5,0)]))) (pX dB)) (cond (decide (d=39)) (callK (ρ.call 194 [LV.cv (CV.ref a b 0),bv c] h) (λa1 a2=>opt (b9 a1) λa3=>opt (bC a3) λM=>jo M.1 λa4 a5 a6=>opt (bC M.2) λN=>opt (bI .i64 N.1) λa7=>opt (bS N.2) λbr=>some (ff a7 a4 a5 a6 a2)) (pX dB)) (cond (decide (d=34)) (callK (ρ.call 194 [LV.cv (CV.ref a b 0),bv c] h) (λa8 a9=>opt (b9 a8) λba=>opt (bC ba) λO=>jo O.1 λbb bc bd=>opt (bC O.2) λP=>opt (bI .i64 P.1) λbe=>opt (bS P.2) λbs=>some (ff be bb bc bd a9)) (pX dB)) (opt (uE ρ a b c e f g h) (kS ρ iO [] [(4,0),(5,0)]))))))) (pX dB))) (pX dB)) (pX dB):=bx
def Me (a b c d e):kB ρ 169 iO [] (ff a b c d e)=some (.ret (LV.ltup [LV.cv (CV.agg [bD b,bD c,CV.str d]),bv a]) e):=bx
def Mf (a b):kB ρ 169 iO [] (dB a b)=bB (below (List.length b) a) (some (.panic a b)):=bx
def acq (a b c e):bN E ρ 169 [LV.cv (CV.ref a b 0),bv c] e=opt (cD E.P 9 (b7 e a b) 0) λl=>opt (cf l) λm=>opt (km m c) λd=>callK (ρ.call 187 [LV.cv (CV.ref a b 0)] e) (λn f=>opt (ce n) λo=>cond (o) (callK (ρ.call 160 [LV.int .u8 (d.toNat:Int)] f) (λp g=>opt (ce p) λq=>cond (q) (callK (ρ.call 188 [LV.cv (CV.ref a b 0),bv c] g) (λr h=>opt (b9 r) λs=>opt (bC s) λi=>jo i.1 λt u v=>opt (bC i.2) λj=>opt (bI .i64 j.1) λw=>opt (bC j.2) λk=>opt (ce k.1) λx=>opt (bS k.2) λy=>cond (x) (some (.ret (LV.ltup [LV.cv (CV.agg [bD t,bD u,CV.str v]),bv w]) h)) (opt (xR ρ a b c (d.toNat:Int) 0 0 ([]:List UInt8) h) (kB ρ 169 iO []))) pP) (opt (xR ρ a b c (d.toNat:Int) 0 0 ([]:List UInt8) g) (kB ρ 169 iO []))) pP) (opt (xR ρ a b c (d.toNat:Int) 0 0 ([]:List UInt8) f) (kB ρ 169 iO []))) pP:=bx
def acr (a):bN E ρ 183 [] a=some (.panic (CV.iface 137 (CV.agg [bD 7])) a):=bx
def OA (a b:Nat)(c:List CV):SegD:=⟨B0,[(0,0),(3,1)],cN 184 56,mS [(0,LV.cv (CV.ref a b 0)),(3,LV.osl c)] []⟩
def C9 (a b:Nat)(c:List CV)(d:Mu):=(OA a b c).loop ρ d
def Gw (a b:Nat)(c:List CV)(d:Mu):St:= .exit 0 (mS [(0,LV.cv (CV.ref a b 0)),(3,LV.osl c)] []) d
def yR (a:CV)(b:Mu):St:= .panic a (mS [] []) b
def W7 (b c d e):(OA b c d).rK ρ e=callK (ρ.call 204 [LV.cv (CV.ref b c 0)] e) (λg h=>opt (cx g) λa=>bB (cY a) (bB (noB a&&true) (bB (gw [a]&&ef 1 d [a]) (callK (ρ.call 162 [LV.cv (CV.ref b c 0),LV.str [44]] h) (λi f=>opt (ce i) λj=>cond (!j) (some (Gw b c (d++[a]) f)) (C9 ρ b c (d++[a]) f)) (pX yR))))) (pX yR):=bx
def M2 (a b c d):kB ρ 184 B0 [.block 0,.seq (cN 184 15)] (Gw a b c d)=callK (ρ.call 185 [LV.cv (CV.ref a b 0),LV.str [41]] d) (λe f=>opt (b9 e) λg=>opt (bS g) λh=>some (.ret (LV.osl c) f)) pP:=bx
def acs (a b c):bN E ρ 184 [LV.cv (CV.ref a b 0)] c=opt (C9 ρ a b [] c) (kB ρ 184 B0 [.block 0,.seq (cN 184 15)]):=bx
def act (a b c d):bN E ρ 185 [LV.cv (CV.ref a b 0),LV.str c] d=callK (ρ.call 162 [LV.cv (CV.ref a b 0),LV.str c] d) (λf e=>opt (ce f) λg=>cond (!g) (callK (ρ.call 183 [] e) (λh i=>opt (b9 h) λj=>opt (bS j) λk=>some (.ret (LV.ltup []) i)) pP) (some (.ret (LV.ltup []) e))) pP:=bx
def NR (a b:Nat):SegD:=⟨B1,[(2,0)],cN 187 7,mS [(0,LV.cv (CV.ref a b 0))] []⟩
def RP (a b:Nat)(c:Mu):=(NR a b).seg ρ c
def tC (a:Bool)(b:Mu):St:= .ret (mS [(2,LV.bool a)] []) b
def NS (a b:Nat):SegD:=⟨B1,[(2,0)],cN 187 15,mS [(0,LV.cv (CV.ref a b 0))] []⟩
def RQ (a b:Nat)(c:Mu):=(NS a b).seg ρ c
def tD (a:Bool)(b:Mu):St:= .ret (mS [(2,LV.bool a)] []) b
def Sj (a:CV)(b:Mu):St:= .panic a (mS [] []) b
def WI (b c a):(NS b c).sK ρ a=opt (cD E.P 35 (b7 a b c) 2) λd=>opt (cR d) λe=>opt (cD E.P 35 (b7 a b c) 2) λf=>opt (cR f) λg=>opt (dr e (IntKind.wrap .i64 ((g.length:Int) -1))) λh=>jo (LV.cv h) λi n j=>cond (decide (i=2)) (callK (ρ.call 82 [LV.osl [CV.str [40],CV.str [44],CV.str [47],CV.str [61]],LV.str j] a) (λk l=>opt (ce k) λm=>some (tD m l)) (pX Sj)) (some (tD false a)):=bx
def Mh (a b):kS ρ B1 [] [(2,0)] (tD a b)=some (tC a b):=bx
def WH (b c a):(NR b c).sK ρ a=opt (cD E.P 35 (b7 a b c) 2) λd=>opt (cR d) λe=>cond (decide ((e.length:Int)=0)) (some (tC true a)) (opt (RQ ρ b c a) (kS ρ B1 [] [(2,0)])):=bx
def Mg (a b):kB ρ 187 B1 [] (tC a b)=some (.ret (LV.bool a) b):=bx
def acu (b c a):bN E ρ 187 [LV.cv (CV.ref b c 0)] a=opt (cD E.P 4 (b7 a b c) 1) λd=>opt (ce d) λe=>cond (!e) (some (.ret (LV.bool false) a)) (opt (RP ρ b c a) (kB ρ 187 B1 [])):=bx
def NT (a b:Nat)(c d e f:Int)(g:List UInt8):SegD:=⟨sq,[(4,0),(5,0),(6,0)],cN 188 63,mS [(0,LV.cv (CV.ref a b 0)),(4,LV.loc 0 0),(10,bv c),(11,bv d)] [Ob.cells [bv e,bv f,LV.str g]]⟩
def C2 (a b:Nat)(c d e f:Int)(g:List UInt8)(h:Mu):=(NT a b c d e f g).seg ρ h
def NU (a b:Nat)(c d e f:Int)(g:List UInt8):SegD:=⟨sq,[(4,0),(5,0),(6,0)],cN 188 127,mS [(0,LV.cv (CV.ref a b 0)),(4,LV.loc 0 0),(10,bv c),(11,bv d)] [Ob.cells [bv e,bv f,LV.str g]]⟩
def Ii (a b:Nat)(c d e f:Int)(g:List UInt8)(h:Mu):=(NU a b c d e f g).seg ρ h
def yj (a:Int)(b:Bool)(c d:Int)(e:List UInt8)(f:Mu):St:= .ret (mS [(4,LV.loc 0 0),(5,bv a),(6,LV.bool b)] [Ob.cells [bv c,bv d,LV.str e]]) f
def Gu (a:CV)(b:Mu):St:= .panic a (mS [] []) b
def yh (a:Int)(b:Bool)(c d:Int)(e:List UInt8)(f:Mu):St:= .ret (mS [(4,LV.loc 0 0),(5,bv a),(6,LV.bool b)] [Ob.cells [bv c,bv d,LV.str e]]) f
def yi (a:CV)(b:Mu):St:= .panic a (mS [] []) b
def WK (c d a b g h i e):(NU c d a b g h i).sK ρ e=callK (ρ.call 205 [LV.cv (CV.ref c d 0),bv a,bv (IntKind.wrap .i64 (a+b))] e) (λj f=>opt (b9 j) λk=>opt (bS k) λt=>opt (cD E.P 9 (b7 f c d) 0) λl=>opt (cf l) λm=>opt (ku m a (IntKind.wrap .i64 (a+b))) λn=>callK (ρ.call 206 [LV.str n] f) (λo p=>jo o λq r s=>some (yj (IntKind.wrap .i64 (a+b)) true q r s p)) (pX Gu)) (pX Gu):=bx
def Mk (a b c d e f):kS ρ sq [] [(4,0),(5,0),(6,0)] (yj a b c d e f)=some (yh a b c d e f):=bx
def WJ (a b c d f g h e):(NT a b c d f g h).sK ρ e=opt (cD E.P 9 (b7 e a b) 0) λi=>opt (cf i) λj=>cond (decide ((j.length:Int)<IntKind.wrap .i64 (c+d))) (callK (ρ.call 191 [bv 7] e) (λk l=>opt (b9 k) λm=>opt (bS m) λn=>opt (Ii ρ a b c d f g h l) (kS ρ sq [] [(4,0),(5,0),(6,0)])) (pX yi)) (opt (Ii ρ a b c d f g h e) (kS ρ sq [] [(4,0),(5,0),(6,0)])):=bx
def Mi (a b c d e f):kB ρ 188 sq [] (yh a b c d e f)=some (.ret (LV.ltup [LV.cv (CV.agg [bD c,bD d,CV.str e]),bv a,LV.bool b]) f):=bx
def Mj (a b):kB ρ 188 sq [] (yi a b)=bB (below (List.length b) a) (some (.panic a b)):=bx
def acv (c d a f):bN E ρ 188 [LV.cv (CV.ref c d 0),bv a] f=callK (ρ.call 190 [LV.cv (CV.ref c d 0),bv a,LV.cv (CV.clo 160 [])] f) (λp q=>opt (b9 p) λr=>opt (bC r) λg=>opt (cf g.1) λh=>opt (bC g.2) λi=>opt (bI .i64 i.1) λs=>opt (bS i.2) λy=>callK (ρ.call 189 [LV.cv (CV.ref c d 0),bv s] q) (λt u=>opt (b9 t) λv=>opt (bC v) λj=>opt (bI .u8 j.1) λk=>opt (bC j.2) λl=>opt (bI .i64 l.1) λm=>opt (bS l.2) λz=>callK (ρ.call 133 [LV.str h] u) (λw b=>opt (b9 w) λx=>opt (bC x) λn=>opt (bI .i64 n.1) λe=>opt (bC n.2) λo=>opt (cx o.1) λA=>opt (bS o.2) λB=>cond (decide (2<(h.length:Int))) (some (.ret (LV.ltup [LV.cv (CV.agg [bD 0,bD 0,CV.str []]),bv a,LV.bool false]) b)) (cond (decide (e<1)) (some (.ret (LV.ltup [LV.cv (CV.agg [bD 0,bD 0,CV.str []]),bv a,LV.bool false]) b)) (cond (decide (60<e)) (some (.ret (LV.ltup [LV.cv (CV.agg [bD 0,bD 0,CV.str []]),bv a,LV.bool false]) b)) (cond (!decide (k=72)) (cond (!decide (k=104)) (some (.ret (LV.ltup [LV.cv (CV.agg [bD 0,bD 0,CV.str []]),bv a,LV.bool false]) b)) (opt (C2 ρ c d m e 0 0 ([]:List UInt8) b) (kB ρ 188 sq []))) (opt (C2 ρ c d m e 0 0 ([]:List UInt8) b) (kB ρ 188 sq [])))))) pP) pP) pP:=bx
def NV (a b:Nat)(c:Int):SegD:=⟨PE,[(4,0),(5,0)],cN 189 15,mS [(0,LV.cv (CV.ref a b 0)),(1,bv c)] []⟩
def RR (a b:Nat)(c:Int)(d:Mu):=(NV a b c).seg ρ d
def yk (a b:Int)(c:Mu):St:= .ret (mS [(4,LV.int .u8 a),(5,bv b)] []) c
def WL (c d a b):(NV c d a).sK ρ b=opt (cD E.P 9 (b7 b c d) 0) λe=>opt (cf e) λf=>opt (km f a) λg=>some (yk (g.toNat:Int) (IntKind.wrap .i64 (a+1)) b):=bx
def Ml (a b c):kB ρ 189 PE [] (yk a b c)=some (.ret (LV.ltup [LV.int .u8 a,bv b]) c):=bx
def acw (a b e f):bN E ρ 189 [LV.cv (CV.ref a b 0),bv e] f=callK (ρ.call 207 [LV.cv (CV.ref a b 0),bv e] f) (λg c=>opt (bI .i64 g) λd=>opt (cD E.P 9 (b7 c a b) 0) λh=>opt (cf h) λi=>cond (decide ((i.length:Int)<=d)) (some (.ret (LV.ltup [LV.int .u8 0,bv d]) c)) (opt (RR ρ a b d c) (kB ρ 189 PE []))) pP:=bx
def OB (a b:Nat)(c:Int)(d:FuncId)(e:List CV):SegD:=⟨B2,[],cN 190 28,mS [(0,LV.cv (CV.ref a b 0)),(1,bv c),(2,LV.cv (CV.clo d [])),(8,LV.osl e)] []⟩
def Iy (a b:Nat)(c:Int)(d:FuncId)(e:List CV)(f:Mu):=(OB a b c d e).loop ρ f
def tK (a:List UInt8)(b:Int)(c:Mu):St:= .ret (mS [(6,LV.str a),(7,bv b)] []) c
def N3 (a b:Nat)(c:FuncId)(d:List CV)(e f:Int):SegD:=⟨B2,[(0,0),(1,0),(2,0),(8,1)],cN 190 227,mS [(0,LV.cv (CV.ref a b 0)),(2,LV.cv (CV.clo c [])),(8,LV.osl d),(9,LV.int .u8 e),(10,bv f)] []⟩
def RT (a b:Nat)(c:FuncId)(d:List CV)(e f:Int)(g:Mu):=(N3 a b c d e f).seg ρ g
def yp (a b:Nat)(c:Int)(d:FuncId)(e:List CV)(f:Mu):St:= .norm (mS [(0,LV.cv (CV.ref a b 0)),(1,bv c),(2,LV.cv (CV.clo d [])),(8,LV.osl e)] []) f
def Gx (a:CV)(b:Mu):St:= .panic a (mS [] []) b
def WN (c d e a b f g):(N3 c d e a b f).sK ρ g=bB (ef 1 a [CV.int .u8 b]) (some (yp c d f e (a++[CV.int .u8 b]) g)):=bx
def Mq (a b c d e f):kR ρ B2 [.block 1] [] (cN 190 28) (yp a b c d e f)=Iy ρ a b c d e f:=bx
def J4 (c d a e b g):(OB c d a e b).rK ρ g=callK (ρ.call 189 [LV.cv (CV.ref c d 0),bv a] g) (λl h=>opt (b9 l) λm=>opt (bC m) λi=>opt (bI .u8 i.1) λf=>opt (bC i.2) λj=>opt (bI .i64 j.1) λn=>opt (bS j.2) λs=>cond (decide (f=0)) (opt (de b) λo=>some (tK o a h)) (callK (ρ.call e [LV.int .u8 f] h) (λp k=>opt (ce p) λq=>cond (!q) (opt (de b) λr=>some (tK r a k)) (opt (RT ρ c d e b f n k) (kR ρ B2 [.block 1] [] (cN 190 28)))) (pX Gx))) (pX Gx):=bx
def M3 (a b c):kB ρ 190 B2 [.block 0] (tK a b c)=some (.ret (LV.ltup [LV.str a,bv b]) c):=bx
def acx (a b c d e):bN E ρ 190 [LV.cv (CV.ref a b 0),bv c,LV.cv (CV.clo d [])] e=opt (Iy ρ a b c d [] e) (kB ρ 190 B2 [.block 0]):=bx
def acy (a b):bN E ρ 191 [bv a] b=some (.panic (CV.iface 191 (CV.agg [bD a])) b):=bx
def N4 (a b:Nat)(c:Int)(d e:List UInt8)(f:Bool)(g h:Int)(i:List UInt8):SegD:=⟨fv,[(4,0),(5,0)],cN 192 31,mS [(0,LV.cv (CV.ref a b 0)),(1,bv c),(4,LV.loc 0 0),(6,LV.str d),(7,LV.str e),(8,LV.bool f)] [Ob.cells [bv g,bv h,LV.str i]]⟩
def uH (a b:Nat)(c:Int)(d e:List UInt8)(f:Bool)(g h:Int)(i:List UInt8)(j:Mu):=(N4 a b c d e f g h i).seg ρ j
def nT (a b c:Int)(d:List UInt8)(e:Mu):St:= .ret (mS [(4,LV.loc 0 0),(5,bv a)] [Ob.cells [bv b,bv c,LV.str d]]) e
def lY (a:CV)(b:Mu):St:= .panic a (mS [] []) b
def IZ (a:Int)(b c:List UInt8)(d:Int)(e:List UInt8)(f:Int)(g:Bool)(h i:Int)(j:List UInt8):SegD:=⟨fv,[(4,0),(5,0)],cN 192 127,mS [(1,bv a),(4,LV.loc 0 0),(6,LV.str b),(7,LV.str c),(14,LV.int .u8 d),(15,LV.str e),(16,bv f),(17,LV.bool g)] [Ob.cells [bv h,bv i,LV.str j]]⟩
def EZ (a:Int)(b c:List UInt8)(d:Int)(e:List UInt8)(f:Int)(g:Bool)(h i:Int)(j:List UInt8)(k:Mu):=(IZ a b c d e f g h i j).seg ρ k
def I3 (a:Int)(b c:List UInt8)(d:Int)(e:List UInt8)(f:Bool)(g h:Int)(i:List UInt8):SegD:=⟨fv,[(4,0),(5,0)],cN 192 255,mS [(1,bv a),(4,LV.loc 0 0),(6,LV.str b),(7,LV.str c),(14,LV.int .u8 d),(15,LV.str e),(17,LV.bool f)] [Ob.cells [bv g,bv h,LV.str i]]⟩
def E5 (a:Int)(b c:List UInt8)(d:Int)(e:List UInt8)(f:Bool)(g h:Int)(i:List UInt8)(j:Mu):=(I3 a b c d e f g h i).seg ρ j
def I4 (a:Int)(b c:List UInt8)(d:Int)(e:List UInt8)(f:Bool)(g h:Int)(i:List UInt8):SegD:=⟨fv,[(4,0),(5,0)],cN 192 511,mS [(1,bv a),(4,LV.loc 0 0),(6,LV.str b),(7,LV.str c),(14,LV.int .u8 d),(15,LV.str e),(17,LV.bool f)] [Ob.cells [bv g,bv h,LV.str i]]⟩
def uG (a:Int)(b c:List UInt8)(d:Int)(e:List UInt8)(f:Bool)(g h:Int)(i:List UInt8)(j:Mu):=(I4 a b c d e f g h i).seg ρ j
def I5 (a b:Int)(c:Bool)(d e:List UInt8)(f g:Int)(h:List UInt8):SegD:=⟨fv,[(4,0),(5,0)],cN 192 4095,mS [(1,bv a),(4,LV.loc 0 0),(14,LV.int .u8 b),(17,LV.bool c),(18,LV.str d),(19,LV.str e)] [Ob.cells [bv f,bv g,LV.str h]]⟩
def E6 (a b:Int)(c:Bool)(d e:List UInt8)(f g:Int)(h:List UInt8)(i:Mu):=(I5 a b c d e f g h).seg ρ i
def rr (a b c:Int)(d:List UInt8)(e:Mu):St:= .ret (mS [(4,LV.loc 0 0),(5,bv a)] [Ob.cells [bv b,bv c,LV.str d]]) e
def I6 (a:Int)(b c:List UInt8)(d e:Int)(f:List UInt8):SegD:=⟨fv,[(4,0),(5,0)],cN 192 8191,mS [(1,bv a),(4,LV.loc 0 0),(18,LV.str b),(19,LV.str c)] [Ob.cells [bv d,bv e,LV.str f]]⟩
def E7 (a:Int)(b c:List UInt8)(d e:Int)(f:List UInt8)(g:Mu):=(I6 a b c d e f).seg ρ g
def rt (a b c:Int)(d:List UInt8)(e:Mu):St:= .ret (mS [(4,LV.loc 0 0),(5,bv a)] [Ob.cells [bv b,bv c,LV.str d]]) e
def wg (a b c:Int)(d:List UInt8)(e:Mu):St:= .ret (mS [(4,LV.loc 0 0),(5,bv a)] [Ob.cells [bv b,bv c,LV.str d]]) e
def rq (a:CV)(b:Mu):St:= .panic a (mS [] []) b
def we (a b c:Int)(d:List UInt8)(e:Mu):St:= .ret (mS [(4,LV.loc 0 0),(5,bv a)] [Ob.cells [bv b,bv c,LV.str d]]) e
def mC (a:CV)(b:Mu):St:= .panic a (mS [] []) b
def rn (a b c:Int)(d:List UInt8)(e:Mu):St:= .ret (mS [(4,LV.loc 0 0),(5,bv a)] [Ob.cells [bv b,bv c,LV.str d]]) e
def rp (a:CV)(b:Mu):St:= .panic a (mS [] []) b
def Up (c b a e f g d):(I6 c b a e f g).sK ρ d=cond (!decide (a=([48]:List UInt8))) (bB (small (List.length ([69]:List UInt8)+a.length)) (bB (small (b.length+List.length (([69]:List UInt8)++a))) (some (rt c 1 1 (b++(([69]:List UInt8)++a)) d)))) (some (rt c 1 1 b d)):=bx
def Ks (a b c d e):kS ρ fv [] [(4,0),(5,0)] (rt a b c d e)=some (rr a b c d e):=bx
def Uo (c h i a b e f g d):(I5 c h i a b e f g).sK ρ d=cond (decide (h=68)) (cond (i) (bB (small (a.length+List.length ([68]:List UInt8))) (bB (small (List.length (a++[68])+b.length)) (some (rr c 1 2 ((a++[68])++b) d)))) (opt (E7 ρ c a b e f g d) (kS ρ fv [] [(4,0),(5,0)]))) (opt (E7 ρ c a b e f g d) (kS ρ fv [] [(4,0),(5,0)])):=bx
def zC (a b c d e):kS ρ fv [] [(4,0),(5,0)] (rr a b c d e)=some (wg a b c d e):=bx
def Un (c i j d k a e f g l):(I4 c i j d k a e f g).sK ρ l=callK (ρ.call 212 [LV.str i,LV.bool true] l) (λp q=>opt (cf p) λb=>bB (small (b.length+List.length ([46]:List UInt8))) (callK (ρ.call 212 [LV.str j,LV.bool false] q) (λr m=>opt (cf r) λh=>bB (small (List.length (b++[46])+h.length)) (cond (a) (callK (ρ.call 133 [LV.str k] m) (λs t=>opt (b9 s) λu=>opt (bC u) λn=>opt (bI .i64 n.1) λv=>opt (bC n.2) λo=>opt (cx o.1) λz=>opt (bS o.2) λA=>callK (ρ.call 199 [bv v] t) (λw x=>opt (cf w) λy=>opt (E6 ρ c d a ((b++[46])++h) y e f g x) (kS ρ fv [] [(4,0),(5,0)])) (pX rq)) (pX rq)) (opt (E6 ρ c d a ((b++[46])++h) ([48]:List UInt8) e f g m) (kS ρ fv [] [(4,0),(5,0)])))) (pX rq))) (pX rq):=bx
def Kr (a b c d e):kS ρ fv [] [(4,0),(5,0)] (wg a b c d e)=some (we a b c d e):=bx
def Um (e a b f c d g h i k):(I3 e a b f c d g h i).sK ρ k=callK (ρ.call 210 [LV.str a,LV.str b] k) (λm l=>opt (bI .i64 m) λn=>cond (decide (30<n)) (callK (ρ.call 191 [bv 7] l) (λo p=>opt (b9 o) λq=>opt (bS q) λw=>opt (uG ρ e a b f c d g h i p) (kS ρ fv [] [(4,0),(5,0)])) (pX mC)) (callK (ρ.call 211 [LV.str c,LV.str [45]] l) (λr j=>opt (cf r) λs=>cond (decide (3<(s.length:Int))) (cond (d) (callK (ρ.call 191 [bv 7] j) (λt u=>opt (b9 t) λv=>opt (bS v) λx=>opt (uG ρ e a b f c d g h i u) (kS ρ fv [] [(4,0),(5,0)])) (pX mC)) (opt (uG ρ e a b f c d g h i j) (kS ρ fv [] [(4,0),(5,0)]))) (opt (uG ρ e a b f c d g h i j) (kS ρ fv [] [(4,0),(5,0)]))) (pX mC))) (pX mC):=bx
def zA (a b c d e):kS ρ fv [] [(4,0),(5,0)] (we a b c d e)=some (rn a b c d e):=bx
def zB (a b):kS ρ fv [] [(4,0),(5,0)] (mC a b)=some (rp a b):=bx
def Ul (j b c d e k a f g h i):(IZ j b c d e k a f g h).sK ρ i=cond (a) (opt (E5 ρ k b c d e a f g h i) (kS ρ fv [] [(4,0),(5,0)])) (opt (E5 ρ j b c d e a f g h i) (kS ρ fv [] [(4,0),(5,0)])):=bx
def Ko (a b c d e):kS ρ fv [] [(4,0),(5,0)] (rn a b c d e)=some (nT a b c d e):=bx
def Kq (a b):kS ρ fv [] [(4,0),(5,0)] (rp a b)=some (lY a b):=bx
def WO (i j a b c k d e f l):(N4 i j a b c k d e f).sK ρ l=callK (ρ.call 208 [LV.cv (CV.ref i j 0),bv a] l) (λt g=>opt (b9 t) λu=>opt (bC u) λm=>opt (bI .u8 m.1) λn=>opt (bC m.2) λo=>opt (cf o.1) λp=>opt (bC o.2) λq=>opt (bI .i64 q.1) λr=>opt (bC q.2) λs=>opt (ce s.1) λh=>opt (bS s.2) λA=>cond (!k) (cond (!h) (callK (ρ.call 209 [LV.str b] g) (λv w=>jo v λx y z=>some (nT a x y z w)) (pX lY)) (opt (EZ ρ a b c n p r h d e f g) (kS ρ fv [] [(4,0),(5,0)]))) (opt (EZ ρ a b c n p r h d e f g) (kS ρ fv [] [(4,0),(5,0)]))) (pX lY):=bx
def Mr (a b c d e):kB ρ 192 fv [] (nT a b c d e)=some (.ret (LV.ltup [LV.cv (CV.agg [bD b,bD c,CV.str d]),bv a]) e):=bx
def Ms (a b):kB ρ 192 fv [] (lY a b)=bB (below (List.length b) a) (some (.panic a b)):=bx
def acz (a b f g):bN E ρ 192 [LV.cv (CV.ref a b 0),bv f] g=callK (ρ.call 190 [LV.cv (CV.ref a b 0),bv f,LV.cv (CV.clo 160 [])] g) (λu v=>opt (b9 u) λw=>opt (bC w) λh=>opt (cf h.1) λc=>opt (bC h.2) λi=>opt (bI .i64 i.1) λd=>opt (bS i.2) λO=>callK (ρ.call 189 [LV.cv (CV.ref a b 0),bv d] v) (λx j=>opt (b9 x) λy=>opt (bC y) λk=>opt (bI .u8 k.1) λz=>opt (bC k.2) λl=>opt (bI .i64 l.1) λm=>opt (bS l.2) λP=>cond (decide (z=46)) (callK (ρ.call 193 [LV.cv (CV.ref a b 0),bv d] j) (λA e=>opt (b9 A) λB=>opt (bC B) λn=>opt (cf n.1) λQ=>opt (bC n.2) λo=>opt (bI .i64 o.1) λR=>opt (bC o.2) λp=>opt (ce p.1) λC=>opt (bS p.2) λS=>cond (!C) (callK (ρ.call 190 [LV.cv (CV.ref a b 0),bv m,LV.cv (CV.clo 160 [])] e) (λD F=>opt (b9 D) λG=>opt (bC G) λq=>opt (cf q.1) λH=>opt (bC q.2) λr=>opt (bI .i64 r.1) λI=>opt (bS r.2) λT=>opt (uH ρ a b I c H true 0 0 ([]:List UInt8) F) (kB ρ 192 fv [])) pP) (cond (decide (c=([]:List UInt8))) (callK (ρ.call 190 [LV.cv (CV.ref a b 0),bv m,LV.cv (CV.clo 160 [])] e) (λJ K=>opt (b9 J) λL=>opt (bC L) λs=>opt (cf s.1) λM=>opt (bC s.2) λt=>opt (bI .i64 t.1) λN=>opt (bS t.2) λU=>opt (uH ρ a b N c M true 0 0 ([]:List UInt8) K) (kB ρ 192 fv [])) pP) (opt (uH ρ a b d c ([]:List UInt8) false 0 0 ([]:List UInt8) e) (kB ρ 192 fv [])))) pP) (opt (uH ρ a b d c ([]:List UInt8) false 0 0 ([]:List UInt8) j) (kB ρ 192 fv []))) pP) pP:=bx
def N5 (a b:Nat)(c:Int):SegD:=⟨PF,[(4,0),(5,0),(6,0)],cN 193 15,mS [(0,LV.cv (CV.ref a b 0)),(8,bv c)] []⟩
def RU (a b:Nat)(c:Int)(d:Mu):=(N5 a b c).seg ρ d
def kP (a:List UInt8)(b:Int)(c:Bool)(d:Mu):St:= .ret (mS [(4,LV.str a),(5,bv b),(6,LV.bool c)] []) d
def qu (a:CV)(b:Mu):St:= .panic a (mS [] []) b
def WP (d e g h):(N5 d e g).sK ρ h=callK (ρ.call 190 [LV.cv (CV.ref d e 0),bv g,LV.cv (CV.clo 135 [])] h) (λm n=>opt (b9 m) λo=>opt (bC o) λi=>opt (cf i.1) λp=>opt (bC i.2) λj=>opt (bI .i64 j.1) λq=>opt (bS j.2) λB=>callK (ρ.call 189 [LV.cv (CV.ref d e 0),bv q] n) (λr s=>opt (b9 r) λt=>opt (bC t) λk=>opt (bI .u8 k.1) λf=>opt (bC k.2) λl=>opt (bI .i64 l.1) λb=>opt (bS l.2) λC=>callK (ρ.call 136 [LV.str p] s) (λu v=>opt (cf u) λa=>bB (small (List.length ([46]:List UInt8)+a.length)) (bB (small (List.length (([46]:List UInt8)++a)+List.length ([46]:List UInt8))) (callK (ρ.call 92 [] v) (λw x=>opt (cR w) λy=>callK (ρ.call 82 [LV.cv (CV.sl y),LV.str ((([46]:List UInt8)++a)++[46])] x) (λz c=>opt (ce z) λA=>cond (A) (cond (decide (f=46)) (some (kP ((([46]:List UInt8)++a)++[46]) b true c)) (some (kP ((([46]:List UInt8)++a)++[46]) b false c))) (cond (decide ((([46]:List UInt8)++a)++[46]=([46,84,82,85,69,46]:List UInt8))) (cond (decide (f=46)) (some (kP ((([46]:List UInt8)++a)++[46]) b true c)) (some (kP ((([46]:List UInt8)++a)++[46]) b false c))) (cond (decide (f=46)) (some (kP ((([46]:List UInt8)++a)++[46]) b (decide ((([46]:List UInt8)++a)++[46]=([46,70,65,76,83,69,46]:List UInt8))) c)) (some (kP ((([46]:List UInt8)++a)++[46]) b false c))))) (pX qu)) (pX qu)))) (pX qu)) (pX qu)) (pX qu):=bx
def Mt (a b c d):kB ρ 193 PF [] (kP a b c d)=some (.ret (LV.ltup [LV.str a,bv b,LV.bool c]) d):=bx
def acA (a b c d):bN E ρ 193 [LV.cv (CV.ref a b 0),bv c] d=callK (ρ.call 189 [LV.cv (CV.ref a b 0),bv c] d) (λh e=>opt (b9 h) λi=>opt (bC i) λf=>opt (bI .u8 f.1) λj=>opt (bC f.2) λg=>opt (bI .i64 g.1) λk=>opt (bS g.2) λl=>cond (!decide (j=46)) (some (.ret (LV.ltup [LV.str [],bv c,LV.bool false]) e)) (opt (RU ρ a b k e) (kB ρ 193 PF []))) pP:=bx
def OC (a b:Nat)(c:Int)(d:List UInt8)(e:Int)(f:List UInt8)(g h:Int)(i:List UInt8):SegD:=⟨ow,[(0,0),(1,0),(4,0),(7,0),(8,0)],cN 194 500,mS [(0,LV.cv (CV.ref a b 0)),(1,bv c),(4,LV.loc 0 0),(6,LV.str d),(7,bv e),(8,LV.str f)] [Ob.cells [bv g,bv h,LV.str i]]⟩
def Iz (a b:Nat)(c:Int)(d:List UInt8)(e:Int)(f:List UInt8)(g h:Int)(i:List UInt8)(j:Mu):=(OC a b c d e f g h i).loop ρ j
def N6 (a b:Nat)(c:Int)(d:List UInt8)(e:Int)(f:List UInt8)(g h i:Int)(j:List UInt8):SegD:=⟨ow,[(0,0),(1,0),(4,0),(6,0),(7,0),(8,0)],cN 194 8003,mS [(0,LV.cv (CV.ref a b 0)),(1,bv c),(4,LV.loc 0 0),(6,LV.str d),(7,bv e),(8,LV.str f),(9,bv g)] [Ob.cells [bv h,bv i,LV.str j]]⟩
def Il (a b:Nat)(c:Int)(d:List UInt8)(e:Int)(f:List UInt8)(g h i:Int)(j:List UInt8)(k:Mu):=(N6 a b c d e f g h i j).seg ρ k
def tF (a b:Nat)(c:Int)(d:List UInt8)(e:Int)(f:List UInt8)(g h:Int)(i:List UInt8)(j:Mu):St:= .exit 0 (mS [(0,LV.cv (CV.ref a b 0)),(1,bv c),(4,LV.loc 0 0),(6,LV.str d),(7,bv e),(8,LV.str f)] [Ob.cells [bv g,bv h,LV.str i]]) j
def yq (a b:Nat)(c:Int)(d:List UInt8)(e:Int)(f:List UInt8)(g h:Int)(i:List UInt8)(j:Mu):St:= .norm (mS [(0,LV.cv (CV.ref a b 0)),(1,bv c),(4,LV.loc 0 0),(6,LV.str d),(7,bv e),(8,LV.str f)] [Ob.cells [bv g,bv h,LV.str i]]) j
def Sn (a:CV)(b:Mu):St:= .panic a (mS [] []) b
def yS (a b:Nat)(c d:Int)(e:List UInt8)(f g:Int)(h:List UInt8)(i:Mu):St:= .exit 0 (mS [(0,LV.cv (CV.ref a b 0)),(1,bv c),(4,LV.loc 0 0),(7,bv d),(8,LV.str e)] [Ob.cells [bv f,bv g,LV.str h]]) i
def tM (a:CV)(b:Mu):St:= .panic a (mS [] []) b
def I7 (a b:Nat)(c d:Int)(e:List UInt8)(f g:Int)(h:List UInt8):SegD:=⟨ow,[(4,0),(5,0)],cN 194 127,mS [(0,LV.cv (CV.ref a b 0)),(1,bv c),(4,LV.loc 0 0),(7,bv d),(8,LV.str e)] [Ob.cells [bv f,bv g,LV.str h]]⟩
def E8 (a b:Nat)(c d:Int)(e:List UInt8)(f g:Int)(h:List UInt8)(i:Mu):=(I7 a b c d e f g h).seg ρ i
def wh (a b c:Int)(d:List UInt8)(e:Mu):St:= .ret (mS [(4,LV.loc 0 0),(5,bv a)] [Ob.cells [bv b,bv c,LV.str d]]) e
def Dj (a:CV)(b:Mu):St:= .panic a (mS [] []) b
def WQ (c d a b i e f j k l g):(N6 c d a b i e f j k l).sK ρ g=opt (cD E.P 9 (b7 g c d) 0) λo=>opt (cf o) λp=>opt (ku p a (IntKind.wrap .i64 (a+f))) λh=>bB (small (e.length+h.length)) (opt (cD E.P 9 (b7 g c d) 0) λq=>opt (cf q) λm=>opt (ku m (IntKind.wrap .i64 (a+IntKind.wrap .i64 (f+1))) (m.length:Int)) λr=>callK (ρ.call 214 [LV.str r,LV.str b] g) (λs n=>opt (ce s) λt=>cond (!t) (some (tF c d (IntKind.wrap .i64 (a+IntKind.wrap .i64 (f+1))) b i (e++h) j k l n)) (bB (small (List.length (e++h)+b.length)) (some (yq c d (IntKind.wrap .i64 (a+IntKind.wrap .i64 (f+1))) b i ((e++h)++b) j k l n)))) (pX Sn)):=bx
def BD (a b c j d e f g h i):kR ρ ow [.block 1,.seq (cN 194 1001)] [(0,0),(1,0),(4,0),(7,0),(8,0)] (cN 194 500) (tF a b c j d e f g h i)=some (yS a b c d e f g h i):=bx
def Mv (a b c d e f g h i j):kR ρ ow [.block 1,.seq (cN 194 1001)] [(0,0),(1,0),(4,0),(7,0),(8,0)] (cN 194 500) (yq a b c d e f g h i j)=Iz ρ a b (IntKind.wrap .i64 (c+1)) d e f g h i j:=bx
def J5 (a b c d e f g h i j):(OC a b c d e f g h i).rK ρ j=opt (cD E.P 9 (b7 j a b) 0) λn=>opt (cf n) λl=>opt (ku l c (l.length:Int)) λo=>callK (ρ.call 213 [LV.str o,LV.str d] j) (λp m=>opt (bI .i64 p) λk=>cond (decide (k<0)) (callK (ρ.call 191 [bv 7] m) (λq r=>opt (b9 q) λs=>opt (bS s) λt=>opt (Il ρ a b c d e f k g h i r) (kR ρ ow [.block 1,.seq (cN 194 1001)] [(0,0),(1,0),(4,0),(7,0),(8,0)] (cN 194 500))) (pX tM)) (opt (Il ρ a b c d e f k g h i m) (kR ρ ow [.block 1,.seq (cN 194 1001)] [(0,0),(1,0),(4,0),(7,0),(8,0)] (cN 194 500)))) (pX tM):=bx
def Uq (b c a d e g h i f):(I7 b c a d e g h i).sK ρ f=callK (ρ.call 205 [LV.cv (CV.ref b c 0),bv d,bv a] f) (λj k=>opt (b9 j) λl=>opt (bS l) λr=>callK (ρ.call 206 [LV.str e] k) (λm n=>jo m λo p q=>some (wh a o p q n)) (pX Dj)) (pX Dj):=bx
def Kt (a b c d e):kB ρ 194 ow [] (wh a b c d e)=some (.ret (LV.ltup [LV.cv (CV.agg [bD b,bD c,CV.str d]),bv a]) e):=bx
def M4 (b c d e a f g h i):kB ρ 194 ow [.block 0,.seq (cN 194 63)] (yS b c d e a f g h i)=cond (decide (60<(a.length:Int))) (callK (ρ.call 191 [bv 8] i) (λj k=>opt (b9 j) λl=>opt (bS l) λm=>opt (E8 ρ b c d e a f g h k) (kB ρ 194 ow [])) pP) (opt (E8 ρ b c d e a f g h i) (kB ρ 194 ow [])):=bx
def M5 (a b):kB ρ 194 ow [.block 0,.seq (cN 194 63)] (tM a b)=bB (below (List.length b) a) (some (.panic a b)):=bx
def acB (b c a d):bN E ρ 194 [LV.cv (CV.ref b c 0),bv a] d=opt (cD E.P 9 (b7 d b c) 0) λe=>opt (cf e) λf=>opt (ku f a (IntKind.wrap .i64 (a+1))) λg=>opt (Iz ρ b c (IntKind.wrap .i64 (a+1)) g a ([]:List UInt8) 0 0 ([]:List UInt8) d) (kB ρ 194 ow [.block 0,.seq (cN 194 63)]):=bx
def N7 (a b c d:Int)(e:List UInt8)(f g:Int)(h:List UInt8):SegD:=⟨m9,[(4,0),(5,0)],cN 195 63,mS [(4,LV.loc 0 0),(6,LV.int .u8 a),(7,bv b),(8,LV.int .u8 c),(9,bv d),(10,LV.str e)] [Ob.cells [bv f,bv g,LV.str h]]⟩
def RX (a b c d:Int)(e:List UInt8)(f g:Int)(h:List UInt8)(i:Mu):=(N7 a b c d e f g h).seg ρ i
def nU (a b c:Int)(d:List UInt8)(e:Mu):St:= .ret (mS [(4,LV.loc 0 0),(5,bv a)] [Ob.cells [bv b,bv c,LV.str d]]) e
def N8 (a b c d:Int)(e:List UInt8):SegD:=⟨m9,[(4,0),(5,0)],cN 195 127,mS [(4,LV.loc 0 0),(6,LV.int .u8 a),(7,bv b)] [Ob.cells [bv c,bv d,LV.str e]]⟩
def Im (a b c d:Int)(e:List UInt8)(f:Mu):=(N8 a b c d e).seg ρ f
def qv (a b c:Int)(d:List UInt8)(e:Mu):St:= .ret (mS [(4,LV.loc 0 0),(5,bv a)] [Ob.cells [bv b,bv c,LV.str d]]) e
def I8 (a:Int)(b:List UInt8)(c d:Int)(e:List UInt8):SegD:=⟨m9,[(4,0),(5,0)],cN 195 511,mS [(4,LV.loc 0 0),(7,bv a),(13,LV.str b)] [Ob.cells [bv c,bv d,LV.str e]]⟩
def Nz (a:Int)(b:List UInt8)(c d:Int)(e:List UInt8)(f:Mu):=(I8 a b c d e).seg ρ f
def ru (a b c:Int)(d:List UInt8)(e:Mu):St:= .ret (mS [(4,LV.loc 0 0),(5,bv a)] [Ob.cells [bv b,bv c,LV.str d]]) e
def oC (a:CV)(b:Mu):St:= .panic a (mS [] []) b
def qw (a:CV)(b:Mu):St:= .panic a (mS [] []) b
def lZ (a:CV)(b:Mu):St:= .panic a (mS [] []) b
def Ur (b a e f g c):(I8 b a e f g).sK ρ c=callK (ρ.call 93 [] c) (λh i=>opt (cR h) λj=>callK (ρ.call 82 [LV.cv (CV.sl j),LV.str a] i) (λk d=>opt (ce k) λl=>cond (!l) (callK (ρ.call 191 [bv 7] d) (λm n=>opt (b9 m) λo=>opt (bS o) λp=>some (ru b 2 0 a n)) (pX oC)) (some (ru b 2 0 a d))) (pX oC)) (pX oC):=bx
def Ku (a b c d e):kS ρ m9 [] [(4,0),(5,0)] (ru a b c d e)=some (qv a b c d e):=bx
def Kv (a b):kS ρ m9 [] [(4,0),(5,0)] (oC a b)=some (qw a b):=bx
def WS (g a b c d h):(N8 g a b c d).sK ρ h=opt (de [CV.int .u8 g]) λi=>callK (ρ.call 215 [] h) (λj e=>opt (cx j) λk=>opt (AD (LV.cv k) {fr:=λ_=> .cv .undef,lam:=[Ob.cells [bv b,bv c,LV.str d]],pushed:=false} e) λf=>bB (oU .string f.1) (optE (kD f.1 f.2 (Value.string ⟨⟨i⟩⟩)) (λl=>opt (cf (LV.cv l)) λm=>some (qv a 2 0 m e)) (opt (Nz ρ a i b c d e) (kS ρ m9 [] [(4,0),(5,0)])))) (pX qw):=bx
def My (a b c d e):kS ρ m9 [] [(4,0),(5,0)] (qv a b c d e)=some (nU a b c d e):=bx
def Mz (a b):kS ρ m9 [] [(4,0),(5,0)] (qw a b)=some (lZ a b):=bx
def WR (a b h i c d e f g):(N7 a b h i c d e f).sK ρ g=cond (!decide (h=0)) (callK (ρ.call 93 [] g) (λk l=>opt (cR k) λm=>callK (ρ.call 82 [LV.cv (CV.sl m),LV.str c] l) (λn j=>opt (ce n) λo=>cond (o) (some (nU i 2 0 c j)) (opt (Im ρ a b d e f j) (kS ρ m9 [] [(4,0),(5,0)]))) (pX lZ)) (pX lZ)) (opt (Im ρ a b d e f g) (kS ρ m9 [] [(4,0),(5,0)])):=bx
def Mw (a b c d e):kB ρ 195 m9 [] (nU a b c d e)=some (.ret (LV.ltup [LV.cv (CV.agg [bD b,bD c,CV.str d]),bv a]) e):=bx
def Mx (a b):kB ρ 195 m9 [] (lZ a b)=bB (below (List.length b) a) (some (.panic a b)):=bx
def acC (a b e f):bN E ρ 195 [LV.cv (CV.ref a b 0),bv e] f=callK (ρ.call 189 [LV.cv (CV.ref a b 0),bv e] f) (λp q=>opt (b9 p) λr=>opt (bC r) λg=>opt (bI .u8 g.1) λh=>opt (bC g.2) λi=>opt (bI .i64 i.1) λj=>opt (bS i.2) λz=>callK (ρ.call 189 [LV.cv (CV.ref a b 0),bv j] q) (λs t=>opt (b9 s) λu=>opt (bC u) λk=>opt (bI .u8 k.1) λl=>opt (bC k.2) λm=>opt (bI .i64 m.1) λn=>opt (bS m.2) λA=>opt (de [CV.int .u8 h,CV.int .u8 l]) λo=>callK (ρ.call 215 [] t) (λv c=>opt (cx v) λw=>opt (AD (LV.cv w) {fr:=λ_=> .cv .undef,lam:=[Ob.cells [bv 0,bv 0,LV.str []]],pushed:=false} c) λd=>bB (oU .string d.1) (optE (kD d.1 d.2 (Value.string ⟨⟨o⟩⟩)) (λx=>opt (cf (LV.cv x)) λy=>some (.ret (LV.ltup [LV.cv (CV.agg [bD 2,bD 0,CV.str y]),bv n]) c)) (opt (RX ρ h j l n o 0 0 ([]:List UInt8) c) (kB ρ 195 m9 [])))) pP) pP) pP:=bx
def N9 (a:Lam):SegD:=⟨gD,[(2,0)],cN 204 31,mS [(1,LV.loc 0 0),(3,LV.loc 1 0),(4,LV.lclo 222 [LV.loc 0 0,LV.loc 1 0])] a true⟩
def ZZ (a:Lam)(b:Mu):=(N9 a).seg ρ b
def Fp (a:Bool)(b:Lam):SegD:=⟨gD,[(1,0),(3,0),(4,0)],cN 204 125,mS [(1,LV.loc 0 0),(3,LV.loc 1 0),(4,LV.lclo 222 [LV.loc 0 0,LV.loc 1 0]),(10,LV.bool a)] b true⟩
def C6 (a:Bool)(b:Lam)(c:Mu):=(Fp a b).seg ρ c
def Oa (a:Lam):SegD:=⟨gD,[(1,0),(3,0),(4,0)],cN 204 501,mS [(3,LV.loc 1 0)] a true⟩
def In (a:Lam)(b:Mu):=(Oa a).seg ρ b
def yw (a b:CV)(c:List CV)(d:Mu):St:= .ret (mS [(2,LV.cv a)] [Ob.cells [LV.cv b],Ob.cells [LV.osl c]] true) d
def yt (a b:CV)(c:List CV)(d:Mu):St:= .ret (mS [(2,LV.cv a)] [Ob.cells [LV.cv b],Ob.cells [LV.osl c]] true) d
def yu (a:CV)(b:Lam)(c:Mu):St:= .panic a (mS [] b true) c
def yv (a:CV)(b:List CV)(c:Mu):St:= .norm (mS [(1,LV.loc 0 0),(3,LV.loc 1 0),(4,LV.lclo 222 [LV.loc 0 0,LV.loc 1 0])] [Ob.cells [LV.cv a],Ob.cells [LV.osl b]] true) c
def Gv (a b:CV)(c:List CV)(d:Mu):St:= .ret (mS [(2,LV.cv a)] [Ob.cells [LV.cv b],Ob.cells [LV.osl c]] true) d
def yr (a:CV)(b:Lam)(c:Mu):St:= .panic a (mS [] b true) c
def Oc (a:Lam):SegD:=⟨gD,[(2,0)],cN 204 63,mS [(1,LV.loc 0 0),(3,LV.loc 1 0),(4,LV.lclo 222 [LV.loc 0 0,LV.loc 1 0])] a true⟩
def Z0 (a:Lam)(b:Mu):=(Oc a).seg ρ b
def Od (a:Lam):SegD:=⟨gD,[(2,0)],cN 204 127,mS [(1,LV.loc 0 0),(3,LV.loc 1 0)] a true⟩
def RY (a:Lam)(b:Mu):=(Od a).seg ρ b
def I9 (a:Bool)(b:Lam):SegD:=⟨gD,[(3,0)],cN 204 509,mS [(1,LV.loc 0 0),(3,LV.loc 1 0),(22,LV.bool a)] b true⟩
def NA (a:Bool)(b:Lam)(c:Mu):=(I9 a b).seg ρ c
def Dk (a:Lam)(b:Mu):St:= .norm (mS [(3,LV.loc 1 0)] a true) b
def Dl (a:CV)(b:Lam)(c:Mu):St:= .panic a (mS [] b true) c
def wi (a:CV)(b:List CV)(c:Mu):St:= .norm (mS [(3,LV.loc 1 0)] [Ob.cells [LV.cv a],Ob.cells [LV.osl b]] true) c
def Ja (a:Lam):SegD:=⟨gD,[(2,0)],cN 204 255,mS [(3,LV.loc 1 0)] a true⟩
def E9 (a:Lam)(b:Mu):=(Ja a).seg ρ b
def tG (a:CV)(b:Lam)(c:Mu):St:= .panic a (mS [] b true) c
def yx (a:CV)(b:Lam)(c:Mu):St:= .panic a (mS [] b true) c
def WU (b:CV)(a:List CV)(c:Mu):(Oa [Ob.cells [LV.cv b],Ob.cells [LV.osl a]]).sK ρ c=opt (dr a 0) λd=>bB (cY d) (some (yw d b a c)):=bx
def ME (a b c d):kS ρ gD [] [(1,0),(3,0),(4,0)] (yw a b c d)=some (yt a b c d):=bx
def CN (d:Bool)(b:CV)(a:List CV)(c:Mu):(Fp d [Ob.cells [LV.cv b],Ob.cells [LV.osl a]]).sK ρ c=cond (d) (opt (dr a 0) λe=>bB (cY e) (opt (jl (LV.cv e)) λh=>cond (h) (callK (ρ.call 183 [] (c++[[Ob.cells [LV.cv b],Ob.cells [LV.osl a]]])) (λi j=>opt (dq j) λf=>opt (b9 i) λk=>opt (bS k) λo=>kE [(0,[3]),(1,[1])] f.2 λl=>opt (In ρ l f.1) (kS ρ gD [] [(1,0),(3,0),(4,0)])) (λm n=>opt (dq n) λg=>some (yu m g.2 g.1))) (opt (In ρ [Ob.cells [LV.cv b],Ob.cells [LV.osl a]] c) (kS ρ gD [] [(1,0),(3,0),(4,0)])))) (some (yv b a c)):=bx
def MB (a b c d):kS ρ gD [.seq (cN 204 63)] [(2,0)] (yt a b c d)=some (Gv a b c d):=bx
def MC (a b c):kS ρ gD [.seq (cN 204 63)] [(2,0)] (yu a b c)=some (yr a b c):=bx
def GZ (f:Bool)(d:CV)(a:List CV)(e:Mu):(I9 f [Ob.cells [LV.cv d],Ob.cells [LV.osl a]]).sK ρ e=cond (f) (callK (ρ.call 95 [LV.cv d] (e++[[Ob.cells [LV.cv d],Ob.dead]])) (λh i=>opt (dq i) λb=>opt (cx h) λc=>bB (Nat.blt 1 (List.length b.2)&& !kA (bQ b.2 1)) (bB (cY c) (bB (noB c&&true) (bB (gw [c]&&ef 1 a [c]) (pR E.P 107 (bQ (List.set b.2 1 (Ob.cells [LV.cv (CV.sl a)])) 1) 0 (LV.osl (a++[c])) λj=>some (Dk (List.set (List.set b.2 1 (Ob.cells [LV.cv (CV.sl a)])) 1 j) b.1)))))) (λk l=>opt (dq l) λg=>some (Dl k g.2 g.1))) (bB (ef 1 a [CV.v (.pointer none)]) (some (wi d (a++[CV.v (.pointer none)]) e))):=bx
def Kw (a b):kS ρ gD [.seq (cN 204 255)] [(2,0)] (Dk a b)=kE [(0,[3])] a λc=>opt (E9 ρ c b) (kS ρ gD [] [(2,0)]):=bx
def Kx (a b c):kS ρ gD [.seq (cN 204 255)] [(2,0)] (Dl a b c)=some (tG a b c):=bx
def Ky (a b c):kS ρ gD [.seq (cN 204 255)] [(2,0)] (wi a b c)=opt (E9 ρ [Ob.cells [LV.cv a],Ob.cells [LV.osl b]] c) (kS ρ gD [] [(2,0)]):=bx
def WW (a:CV)(b:List CV)(c:Mu):(Od [Ob.cells [LV.cv a],Ob.cells [LV.osl b]]).sK ρ c=callK (ρ.call 162 [LV.cv a,LV.str [58]] (c++[[Ob.cells [LV.cv a],Ob.cells [LV.osl b]]])) (λf g=>opt (dq g) λd=>opt (ce f) λh=>kE [(0,[3]),(1,[1])] d.2 λi=>opt (NA ρ h i d.1) (kS ρ gD [.seq (cN 204 255)] [(2,0)])) (λj k=>opt (dq k) λe=>some (tG j e.2 e.1)):=bx
def MF (a b c):kS ρ gD [] [(2,0)] (tG a b c)=some (yx a b c):=bx
def WV (b:CV)(c:List CV)(a:Mu):(Oc [Ob.cells [LV.cv b],Ob.cells [LV.osl c]]).sK ρ a=callK (ρ.call 222 [LV.cv (CV.ref (List.length a) 0 0),LV.cv (CV.ref (List.length a) 1 0)] (a++[[Ob.cells [LV.cv b],Ob.cells [LV.osl c]]])) (λf g=>opt (dq g) λd=>opt (b9 f) λh=>opt (bS h) λl=>kE [(0,[3]),(1,[1])] d.2 λi=>opt (RY ρ i d.1) (kS ρ gD [] [(2,0)])) (λj k=>opt (dq k) λe=>some (yx j e.2 e.1)):=bx
def BE (a b c):kS ρ gD [] [(2,0)] (yx a b c)=some (yr a b c):=bx
def MD (a b c):kS ρ gD [.seq (cN 204 63)] [(2,0)] (yv a b c)=opt (Z0 ρ [Ob.cells [LV.cv a],Ob.cells [LV.osl b]] c) (kS ρ gD [] [(2,0)]):=bx
def WT (a:CV)(b:List CV)(c:Mu):(N9 [Ob.cells [LV.cv a],Ob.cells [LV.osl b]]).sK ρ c=callK (ρ.call 162 [LV.cv a,LV.str [58]] (c++[[Ob.cells [LV.cv a],Ob.cells [LV.osl b]]])) (λf g=>opt (dq g) λd=>opt (ce f) λh=>kE [(0,[3]),(1,[1])] d.2 λi=>opt (C6 ρ (!h) i d.1) (kS ρ gD [.seq (cN 204 63)] [(2,0)])) (λj k=>opt (dq k) λe=>some (yr j e.2 e.1)):=bx
def MA (a c d b):kB ρ 204 gD [] (Gv a c d b)=bB (fj (List.length b) (LV.cv a)) (some (.ret (LV.cv a) b)):=bx
def acD (b c a):bN E ρ 204 [LV.cv (CV.ref b c 0)] a=callK (ρ.call 222 [LV.cv (CV.ref (List.length a) 0 0),LV.cv (CV.ref (List.length a) 1 0)] (a++[[Ob.cells [LV.cv (CV.ref b c 0)],Ob.cells [LV.cv (CV.v (.slice none 0 0))]]])) (λg h=>opt (dq h) λd=>opt (b9 g) λi=>opt (bS i) λl=>kE [(0,[3]),(1,[1])] d.2 λj=>opt (ZZ ρ j d.1) (kB ρ 204 gD [])) (λe k=>opt (dq k) λf=>bB (below (List.length f.1) e) (some (.panic e f.1))):=bx
def OD (a b:Nat)(c d:Int):SegD:=⟨PG,[],cN 205 12,mS [(0,LV.cv (CV.ref a b 0)),(2,bv c),(6,bv d)] []⟩
def IA (a b:Nat)(c d:Int)(e:Mu):=(OD a b c d).loop ρ e
def yT (a:Mu):St:= .exit 0 (mS [] []) a
def J6 (a b e c d):(OD a b e c).rK ρ d=cond (decide (c<e)) (opt (gh E.P 55 (b7 d a b) 3) λf=>opt (gv f.1) λg=>bB (ef 1 g [bD c]) (bB (dl (a+1) (g++[bD c])) (opt (du E.P 55 (b7 (cq d a b f.2) a b) 3 (LV.osl (g++[bD c]))) λh=>IA ρ a b e (IntKind.wrap .i64 (c+1)) (cq (cq d a b f.2) a b h)))) (some (yT d)):=bx
def M6 (a):kB ρ 205 PG [.block 0] (yT a)=some (.ret (LV.ltup []) a):=bx
def acE (a b c d e):bN E ρ 205 [LV.cv (CV.ref a b 0),bv c,bv d] e=opt (IA ρ a b d c e) (kB ρ 205 PG [.block 0]):=bx
def acF (b c):bN E ρ 206 [LV.str b] c=callK (ρ.call 224 [LV.str b,LV.str [39],LV.str [39,39]] c) (λd e=>opt (cf d) λa=>bB (small (List.length ([39]:List UInt8)+a.length)) (bB (small (List.length (([39]:List UInt8)++a)+List.length ([39]:List UInt8))) (some (.ret (LV.cv (CV.agg [bD 1,bD 6,CV.str ((([39]:List UInt8)++a)++[39])])) e)))) pP:=bx
def OE (a b:Nat)(c:Int):SegD:=⟨PH,[(1,0)],cN 207 24,mS [(0,LV.cv (CV.ref a b 0)),(1,bv c)] []⟩
def IB (a b:Nat)(c:Int)(d:Mu):=(OE a b c).loop ρ d
def qA (a:Int)(b:Mu):St:= .exit 0 (mS [(1,bv a)] []) b
def J7 (c d b a):(OE c d b).rK ρ a=opt (cD E.P 4 (b7 a c d) 1) λe=>opt (ce e) λf=>cond (f) (opt (cD E.P 9 (b7 a c d) 0) λg=>opt (cf g) λh=>cond (decide (b<(h.length:Int))) (opt (cD E.P 9 (b7 a c d) 0) λi=>opt (cf i) λj=>opt (km j b) λk=>cond (decide ((k.toNat:Int)=32)) (IB ρ c d (IntKind.wrap .i64 (b+1)) a) (some (qA b a))) (some (qA b a))) (some (qA b a)):=bx
def M7 (a b):kB ρ 207 PH [.block 0,.seq (cN 207 7)] (qA a b)=some (.ret (bv a) b):=bx
def acG (a b c d):bN E ρ 207 [LV.cv (CV.ref a b 0),bv c] d=opt (IB ρ a b c d) (kB ρ 207 PH [.block 0,.seq (cN 207 7)]):=bx
def Oe (a b:Nat)(c d:Int):SegD:=⟨rb,[(4,0),(5,0),(6,0),(7,0)],cN 208 31,mS [(0,LV.cv (CV.ref a b 0)),(4,LV.int .u8 c),(9,bv d)] []⟩
def Io (a b:Nat)(c d:Int)(e:Mu):=(Oe a b c d).seg ρ e
def Jb (a b:Nat)(c d:Int)(e:List UInt8):SegD:=⟨rb,[(4,0),(5,0),(6,0),(7,0)],cN 208 127,mS [(0,LV.cv (CV.ref a b 0)),(4,LV.int .u8 c),(9,bv d),(10,LV.str e)] []⟩
def rT (a b:Nat)(c d:Int)(e:List UInt8)(f:Mu):=(Jb a b c d e).seg ρ f
def wj (a:Int)(b:List UInt8)(c:Int)(d:Bool)(e:Mu):St:= .ret (mS [(4,LV.int .u8 a),(5,LV.str b),(6,bv c),(7,LV.bool d)] []) e
def PL (a:CV)(b:Mu):St:= .panic a (mS [] []) b
def yy (a:Int)(b:List UInt8)(c:Int)(d:Bool)(e:Mu):St:= .ret (mS [(4,LV.int .u8 a),(5,LV.str b),(6,bv c),(7,LV.bool d)] []) e
def So (a:CV)(b:Mu):St:= .panic a (mS [] []) b
def Us (c d e f a g):(Jb c d e f a).sK ρ g=callK (ρ.call 190 [LV.cv (CV.ref c d 0),bv f,LV.cv (CV.clo 160 [])] g) (λj k=>opt (b9 j) λl=>opt (bC l) λh=>opt (cf h.1) λb=>opt (bC h.2) λi=>opt (bI .i64 i.1) λm=>opt (bS i.2) λn=>bB (small (a.length+b.length)) (some (wj e (a++b) m (!decide (b=([]:List UInt8))) k))) (pX PL):=bx
def sU (a b c d e):kS ρ rb [] [(4,0),(5,0),(6,0),(7,0)] (wj a b c d e)=some (yy a b c d e):=bx
def WX (a b c g h):(Oe a b c g).sK ρ h=callK (ρ.call 189 [LV.cv (CV.ref a b 0),bv g] h) (λk d=>opt (b9 k) λl=>opt (bC l) λi=>opt (bI .u8 i.1) λe=>opt (bC i.2) λj=>opt (bI .i64 j.1) λf=>opt (bS j.2) λm=>cond (decide (e=43)) (cond (decide (e=45)) (opt (rT ρ a b c f ([45]:List UInt8) d) (kS ρ rb [] [(4,0),(5,0),(6,0),(7,0)])) (opt (rT ρ a b c f ([]:List UInt8) d) (kS ρ rb [] [(4,0),(5,0),(6,0),(7,0)]))) (cond (decide (e=45)) (cond (decide (e=45)) (opt (rT ρ a b c f ([45]:List UInt8) d) (kS ρ rb [] [(4,0),(5,0),(6,0),(7,0)])) (opt (rT ρ a b c f ([]:List UInt8) d) (kS ρ rb [] [(4,0),(5,0),(6,0),(7,0)]))) (opt (rT ρ a b c g ([]:List UInt8) d) (kS ρ rb [] [(4,0),(5,0),(6,0),(7,0)])))) (pX So):=bx
def BF (a b c d e):kB ρ 208 rb [] (yy a b c d e)=some (.ret (LV.ltup [LV.int .u8 a,LV.str b,bv c,LV.bool d]) e):=bx
def acH (a b d f):bN E ρ 208 [LV.cv (CV.ref a b 0),bv d] f=callK (ρ.call 189 [LV.cv (CV.ref a b 0),bv d] f) (λj e=>opt (b9 j) λk=>opt (bC k) λg=>opt (bI .u8 g.1) λc=>opt (bC g.2) λh=>opt (bI .i64 h.1) λi=>opt (bS h.2) λl=>cond (!decide (IntKind.wrap .u8 ((BitVec.ofInt (IntKind.bits .u8) c &&& ~~~BitVec.ofInt (IntKind.bits .u8) (32:Int)).toNat:Int)=69)) (cond (!decide (IntKind.wrap .u8 ((BitVec.ofInt (IntKind.bits .u8) c &&& ~~~BitVec.ofInt (IntKind.bits .u8) (32:Int)).toNat:Int)=68)) (some (.ret (LV.ltup [LV.int .u8 0,LV.str [],bv d,LV.bool false]) e)) (opt (Io ρ a b (IntKind.wrap .u8 ((BitVec.ofInt (IntKind.bits .u8) c &&& ~~~BitVec.ofInt (IntKind.bits .u8) (32:Int)).toNat:Int)) i e) (kB ρ 208 rb []))) (opt (Io ρ a b (IntKind.wrap .u8 ((BitVec.ofInt (IntKind.bits .u8) c &&& ~~~BitVec.ofInt (IntKind.bits .u8) (32:Int)).toNat:Int)) i e) (kB ρ 208 rb []))) pP:=bx
def acI (c d):bN E ρ 209 [LV.str c] d=callK (ρ.call 133 [LV.str c] d) (λg b=>opt (b9 g) λh=>opt (bC h) λe=>opt (bI .i64 e.1) λa=>opt (bC e.2) λf=>opt (cx f.1) λi=>opt (bS f.2) λG=>cond (decide (10<(c.length:Int))) (callK (ρ.call 191 [bv 28] b) (λj k=>opt (b9 j) λl=>opt (bS l) λH=>callK (ρ.call 199 [bv a] k) (λm n=>opt (cf m) λo=>some (.ret (LV.cv (CV.agg [bD 1,bD 0,CV.str o])) n)) pP) pP) (opt (HW (LV.cv i)) λp=>cond (!p) (callK (ρ.call 191 [bv 28] b) (λq r=>opt (b9 q) λs=>opt (bS s) λI=>callK (ρ.call 199 [bv a] r) (λt u=>opt (cf t) λv=>some (.ret (LV.cv (CV.agg [bD 1,bD 0,CV.str v])) u)) pP) pP) (cond (decide (2147483647<a)) (callK (ρ.call 191 [bv 28] b) (λw x=>opt (b9 w) λy=>opt (bS y) λJ=>callK (ρ.call 199 [bv a] x) (λz A=>opt (cf z) λB=>some (.ret (LV.cv (CV.agg [bD 1,bD 0,CV.str B])) A)) pP) pP) (callK (ρ.call 199 [bv a] b) (λC D=>opt (cf C) λF=>some (.ret (LV.cv (CV.agg [bD 1,bD 0,CV.str F])) D)) pP)))) pP:=bx
def acJ (a b c):bN E ρ 210 [LV.str a,LV.str b] c=callK (ρ.call 225 [LV.str a,LV.str [48]] c) (λd e=>opt (cf d) λf=>callK (ρ.call 226 [LV.str b,LV.str [48]] e) (λg h=>opt (cf g) λi=>some (.ret (bv (IntKind.wrap .i64 ((f.length:Int)+(i.length:Int)))) h)) pP) pP:=bx
def Yd (a c b):bN E ρ 212 [LV.str a,LV.bool c] b=cond (c) (callK (ρ.call 225 [LV.str a,LV.str [48]] b) (λh d=>opt (cf h) λe=>cond (decide (e=([]:List UInt8))) (some (.ret (LV.str [48]) d)) (some (.ret (LV.str e) d))) pP) (callK (ρ.call 226 [LV.str a,LV.str [48]] b) (λi f=>opt (cf i) λg=>cond (decide (g=([]:List UInt8))) (some (.ret (LV.str [48]) f)) (some (.ret (LV.str g) f))) pP):=bx
def acK (a):bN E ρ 215 [] a=some (.ret (LV.cv (CV.mview [Value.string ⟨⟨([60,61]:List UInt8)⟩⟩,Value.string ⟨⟨([62,61]:List UInt8)⟩⟩,Value.string ⟨⟨([61,61]:List UInt8)⟩⟩,Value.string ⟨⟨([47,61]:List UInt8)⟩⟩,Value.string ⟨⟨([60]:List UInt8)⟩⟩,Value.string ⟨⟨([62]:List UInt8)⟩⟩] [CV.str [46,76,69,46],CV.str [46,71,69,46],CV.str [46,69,81,46],CV.str [46,78,69,46],CV.str [46,76,84,46],CV.str [46,71,84,46]])) a):=bx
def acL (g h a b i):bN E ρ 222 [LV.cv (CV.ref g h 0),LV.cv (CV.ref a b 0)] i=opt (cD E.P 88 (b7 i g h) 0) λm=>opt (cx m) λn=>callK (ρ.call 223 [LV.cv n] i) (λo c=>opt (ce o) λp=>cond (p) (opt (gh E.P 107 (b7 c a b) 0) λj=>opt (gv j.1) λk=>bB (ef 1 k [CV.v (.pointer none)]) (bB (dl (a+1) (k++[CV.v (.pointer none)])) (opt (du E.P 107 (b7 (cq c a b j.2) a b) 0 (LV.osl (k++[CV.v (.pointer none)]))) λq=>some (.ret (LV.ltup []) (cq (cq c a b j.2) a b q))))) (opt (gh E.P 107 (b7 c a b) 0) λd=>opt (gv d.1) λl=>opt (cD E.P 88 (b7 (cq c a b d.2) g h) 0) λr=>opt (cx r) λs=>bB (kA (b7 (cq c a b d.2) a b)) (callK (ρ.call 95 [LV.cv s] (cq (cq c a b d.2) a b Ob.dead)) (λt f=>opt (cx t) λe=>bB (za f a b&& !kA (b7 f a b)) (bB (cY e) (bB (noB e&&true) (bB (gw [e]&&ef 1 l [e]) (bB (dl (a+1) (l++[e])) (opt (du E.P 107 (b7 (cq f a b (b7 (cq c a b d.2) a b)) a b) 0 (LV.osl (l++[e]))) λu=>some (.ret (LV.ltup []) (cq (cq f a b (b7 (cq c a b d.2) a b)) a b u)))))))) pP))) pP:=bx
def acM (a b c):bN E ρ 223 [LV.cv (CV.ref a b 0)] c=callK (ρ.call 164 [LV.cv (CV.ref a b 0)] c) (λd e=>opt (cf d) λf=>callK (ρ.call 82 [LV.osl [CV.str [58],CV.str [44],CV.str [41]],LV.str f] e) (λg h=>opt (ce g) λi=>some (.ret (LV.bool i) h)) pP) pP:=bx
end
end Go.Abs
