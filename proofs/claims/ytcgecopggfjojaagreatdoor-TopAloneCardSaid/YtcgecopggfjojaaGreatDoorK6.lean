/- Part 6: the logic, the plain laws and the walks behind TopAlone (lemmas only; each says its own conditions). -/
import Derived.Test.YtcgecopggfjojaaGreatDoorK5
set_option maxRecDepth 100000
set_option linter.all false
set_option maxHeartbeats 0
namespace Go.Proofs.YtcgecopggfjojaaGreatDoor
open Go Go.RowKit Go.Proofs.Tryz E Fl Cf Od Bf Cr Rt Tr Gw Dg Au Wi
attribute [local irreducible] E.CW E.OW E.QW E.AW E.lJ E.blockK E.PV
def fF(A:am)(c:Nat)(l:ap)(w0:World)(hl:l.length*1<=140737488355328)(hX:ce w0 A (aA l)):
  CO 20 #[.slice A l.length c] w0 fun v Hn=>∃A2 c2,v=.slice A2 l.length c2/\Hn=[HP.row 5 1 A2 l.length c2 (aA l)]:=by
 refine Zq ?_;refine Zc ?_ ?_
 ·refine Z4u ?_;intro hc;refine ZV (k:=?_);refine Zl ?_
  have hl0:l=[]:=by
    cases hA:A with
    |none=>
      cases l with
      |nil=>rfl
      |cons x r=>obtain⟨ad,e,_⟩:=hX K7;rw[hA] at e;cases e
    |some ad=>rw[hA] at hc;cases hc
  subst hl0;exact⟨none,0,rfl,rfl⟩
 refine Z4t ?_;intros;refine OW.bsl 1 (aA []) rfl rfl (fun w=>Oe w) (fun AL=>?_);refine Zr (k:=ZW (k:=fun A2 c2=>?_));refine Zl ?_;exact⟨_,_,rfl,rfl⟩
def bc(A:am)(c:Nat)(l:bv)(w0:World)(hl:l.length*8<=140737488355328)(hX:ce w0 A (ints l)):
  CO 44 #[.slice A l.length c] w0 fun v Hn=>∃A2 c2,v=.slice A2 l.length c2/\Hn=[HP.row 3 1 A2 l.length c2 (ints l)]:=by
 refine Zq ?_;refine Zc ?_ ?_
 ·refine Z4u ?_;intro hc;refine ZC (k:=?_);refine Zl ?_
  have hl0:l=[]:=by
    cases hA:A with
    |none=>
      cases l with
      |nil=>rfl
      |cons x r=>obtain⟨ad,e,_⟩:=hX K7;rw[hA] at e;cases e
    |some ad=>rw[hA] at hc;cases hc
  subst hl0;exact⟨none,0,rfl,rfl⟩
 refine Z4t ?_;intros;refine OW.bsl 1 (ints []) rfl rfl (fun w=>Og w) (fun AL=>?_);refine Zr (k:=ZW (k:=fun A2 c2=>?_));refine Zl ?_;exact⟨_,_,rfl,rfl⟩
def abf(m:Tm)(w0:World)(hm:m.rd w0 (Old w0))(hf:m.q.fit):
  CO 21 #[m.v] w0 fun v Hn=>∃m2:Tm,v=m2.v/\Hn=[HP.tm m2]/\m2.q=m.q:=by
 obtain⟨hX,hY,hZ⟩:=id hm;have hs1:=hf.h;have hs2:=hf.p;have hs3:=hf.d;have hsl:=jf m.q;refine Zq ?_;refine Zx (k:=Z4y ?_);intros;refine ZY (k:=?_);iterate 3 refine Z4v ?_
 refine E.AW.three 1 4 7 K0 rfl rfl rfl ?_ ?_ ?_
 focus
  refine Zo (k:=Z4w ?_);refine E.AW.three 2 4 7 K0 rfl rfl rfl ?_ ?_ ?_
  focus
   refine Zg @bc ?_;refine Z4w ?_;intros;refine E.AW.two 4 7 K0 rfl rfl ?_ ?_
   focus
    refine Zo (k:=Z4w ?_);refine E.AW.two 5 7 K0 rfl rfl ?_ ?_
    focus
     refine Zg @bc ?_;refine Z4w ?_;iterate 2 refine Z4v ?_
     intros;refine Z4D ?_;refine Zg @bc ?_;refine Z4w ?_;iterate 6 refine Z4v ?_
     intros
    rotate_right
    focus
     refine Zo (k:=Zj (k:=Za (k:=Z4G ?_)));refine Zg @bc ?_;refine Z4w ?_;intros;refine Z4D ?_;refine Zg @bc ?_;refine Z4w ?_;iterate 6 refine Z4v ?_
     intros
   rotate_right
   focus
    refine Zo (k:=Z4w ?_);iterate 2 refine Z4v ?_
    refine Z4G ?_;refine Zg @bc ?_;refine Z4w ?_;intros;refine Z4D ?_;refine Zg @bc ?_;refine Z4w ?_;iterate 6 refine Z4v ?_
    intros
  rotate_right
  focus
   refine Zo (k:=Z4w ?_);refine E.AW.two 2 4 K0 rfl rfl ?_ ?_
   focus
    refine Zg @bc ?_;refine Z4w ?_;iterate 2 refine Z4v ?_
    intros;refine Z4G ?_;refine Zg @bc ?_;refine Z4w ?_;intros;refine Z4D ?_;refine Zg @bc ?_;refine Z4w ?_;iterate 6 refine Z4v ?_
    intros
   rotate_right
   focus
    refine Zo (k:=Zj (k:=Z10 (k:=?_)));refine Zg @bc ?_;refine Zj (k:=Z4v ?_);intros;refine Z4G ?_;refine Zg @bc ?_;refine Z4w ?_;intros;refine Z4D ?_;refine Zg @bc ?_;refine Z4w ?_;iterate 6 refine Z4v ?_
    intros
  rotate_right
  focus
   refine Zo (k:=Z4w ?_);refine E.AW.two 2 7 K0 rfl rfl ?_ ?_
   focus
    refine Zg @bc ?_;refine Z4w ?_;intros;refine E.AW.two 5 7 K0 rfl rfl ?_ ?_
    focus
     refine Zg @bc ?_;refine Z4w ?_;iterate 2 refine Z4v ?_
     intros;refine Z4D ?_;refine Zg @bc ?_;refine Z4w ?_;iterate 6 refine Z4v ?_
     intros
    rotate_right
    focus
     refine Zo (k:=Zj (k:=Za (k:=Z4G ?_)));refine Zg @bc ?_;refine Z4w ?_;intros;refine Z4D ?_;refine Zg @bc ?_;refine Z4w ?_;iterate 6 refine Z4v ?_
     intros
   rotate_right
   focus
    refine Zo (k:=Zj (k:=Z10 (k:=?_)));refine Zg @bc ?_;refine Zj (k:=Z4v ?_);intros;refine Z4G ?_;refine Zg @bc ?_;refine Z4w ?_;intros;refine Z4D ?_;refine Zg @bc ?_;refine Z4w ?_;iterate 6 refine Z4v ?_
    intros
 rotate_right
 focus
  refine Zo (k:=Z4w ?_);refine E.AW.two 1 4 K0 rfl rfl ?_ ?_
  focus
   refine Zo (k:=Z4w ?_);refine E.AW.two 2 4 K0 rfl rfl ?_ ?_
   focus
    refine Zg @bc ?_;refine Z4w ?_;iterate 2 refine Z4v ?_
    intros;refine Z4G ?_;refine Zg @bc ?_;refine Z4w ?_;intros;refine Z4D ?_;refine Zg @bc ?_;refine Z4w ?_;iterate 6 refine Z4v ?_
    intros
   rotate_right
   focus
    refine Zo (k:=Zj (k:=Z10 (k:=?_)));refine Zg @bc ?_;refine Zj (k:=Z4v ?_);intros;refine Z4G ?_;refine Zg @bc ?_;refine Z4w ?_;intros;refine Z4D ?_;refine Zg @bc ?_;refine Z4w ?_;iterate 6 refine Z4v ?_
    intros
  rotate_right
  focus
   refine Zo (k:=Zj (k:=Za (k:=Z10 (k:=?_))));refine Zg @bc ?_;refine Zj (k:=Z4v ?_);intros;refine Z4G ?_;refine Zg @bc ?_;refine Z4w ?_;intros;refine Z4D ?_;refine Zg @bc ?_;refine Z4w ?_;iterate 6 refine Z4v ?_
   intros
 rotate_right
 focus
  refine Zo (k:=Z4w ?_);refine E.AW.two 1 7 K0 rfl rfl ?_ ?_
  focus
   refine Zo (k:=Z4w ?_);refine E.AW.two 2 7 K0 rfl rfl ?_ ?_
   focus
    refine Zg @bc ?_;refine Z4w ?_;intros;refine E.AW.two 5 7 K0 rfl rfl ?_ ?_
    focus
     refine Zg @bc ?_;refine Z4w ?_;iterate 2 refine Z4v ?_
     intros;refine Z4D ?_;refine Zg @bc ?_;refine Z4w ?_;iterate 6 refine Z4v ?_
     intros
    rotate_right
    focus
     refine Zo (k:=Zj (k:=Za (k:=Z4G ?_)));refine Zg @bc ?_;refine Z4w ?_;intros;refine Z4D ?_;refine Zg @bc ?_;refine Z4w ?_;iterate 6 refine Z4v ?_
     intros
   rotate_right
   focus
    refine Zo (k:=Zj (k:=Z10 (k:=?_)));refine Zg @bc ?_;refine Zj (k:=Z4v ?_);intros;refine Z4G ?_;refine Zg @bc ?_;refine Z4w ?_;intros;refine Z4D ?_;refine Zg @bc ?_;refine Z4w ?_;iterate 6 refine Z4v ?_
    intros
  rotate_right
  focus
   refine Zo (k:=Zj (k:=Za (k:=Z10 (k:=?_))));refine Zg @bc ?_;refine Zj (k:=Z4v ?_);intros;refine Z4G ?_;refine Zg @bc ?_;refine Z4w ?_;intros;refine Z4D ?_;refine Zg @bc ?_;refine Z4w ?_;iterate 6 refine Z4v ?_
   intros
 all_goals
  refine Z4u ?_;refine CW.aX [3,2,1,0,0] 3 rfl rfl ?_;refine Zr (k:=Z11 (k:=?_));exact⟨⟨m.q,_,_,_,_,_,_⟩,rfl,rfl,rfl⟩
def ac8(g:aP)(t:Int)(w0:World)(hg:g.rd w0 (Old w0))(hgf:g.q.fit):
  CO 7 #[g.v,J t] w0 fun v Hn=>∃g2:aP,v=.tuple #[g2.v,J (lI g.q t).2]/\Hn=[HP.cfg g2]/\g2.q=(lI g.q t).1:=by
 obtain⟨hX1,hX2,hX3,hX4⟩:=id hg;have hgl:=aP.cj hgf;have htn:=aP.eJ g;refine Zq ?_;refine Zg @o0 ?_;refine Zc ?_ ?_
 ·refine Z4u ?_;intros;refine CW.Kv ?_;refine Zr (k:=Z4Q ?_);have hcc:¬Cf.check g.q=0:=by assumption
  rw[show lI g.q t=(Cf.zero,Cf.check g.q) from ae hcc];exact⟨aP.z,rfl,rfl,rfl⟩
 refine Z4u ?_;intro _ _ hc;have hcz:Cf.check g.q=0:=by assumption
 refine Zg @Ht ?_;refine Zc ?_ ?_
 ·refine Z4u ?_;intros;refine CW.Kv ?_;refine Zr (k:=Z4Q ?_);have hpp:ag g.q.ts t=false:=by assumption
  rw[show lI g.q t=(Cf.zero,2) from(aa hcz).trans (by rw[hpp]<;>rfl)]
  exact⟨aP.z,rfl,rfl,rfl⟩
 refine Z4u ?_;intro hc;have hpp:ag g.q.ts t=true:=by assumption
 have htb:=q8 hpp;have ht3:=dw (az hcz).2.2.1;rw[htn] at htb ht3;refine Zr (k:=ZG (k:=Z4u ?_));refine CW.put 7 (U (t+1)) rfl (by refine aq (Value.int .u8) ?_;simp only[IntKind.wrap_u8];omega) ?_
 refine ZQ (k:=?_);iterate 7 refine Z4v ?_
 refine E.AW.two 5 9 K0 rfl rfl ?_ ?_
 focus
  refine Z13 (k:=fun AT=>Z4w ?_);refine E.AW.first 8 rfl K0 K0 K0 rfl rfl rfl (PV.build (ps:=[(0,.tmp 28),(2,.tmp 32),(3,.tmp 34)]) rfl rfl (fun w=>(sq).h w)) ?_;iterate 3 refine Z4v ?_
  intro BO
 rotate_right
 focus
  refine Zo (k:=Z4w ?_);intros;refine ZS (k:=Z13 (k:=fun AT=>Z4w ?_));refine E.AW.first 8 rfl K0 K0 K0 rfl rfl rfl (PV.build (ps:=[(0,.tmp 28),(2,.tmp 32),(3,.tmp 34)]) rfl rfl (fun w=>(sq).h w)) ?_;iterate 2 refine Z4v ?_
 all_goals
  refine Z4u ?_;refine CW.dV mixed [3] rfl ?_;iterate 5 refine Z4v ?_
  refine Z14 (k:=?_);refine Zg @fF ?_;refine Z4w ?_;iterate 2 refine Z4v ?_
  intro AF cF;refine Z4N ?_;refine Zg @fF ?_;refine Z4t ?_;intro AS cS;refine CW.sels [2,0,0,0,0,0] rfl ?_;refine CW.av [1,2,4,7,8,48,49] 1 rfl rfl (fun mm mods Hm=>∃k:Nat,mm=g.l.length-k/\mods=[(50,J k)]/\Hm=[HP.row 5 1 AF g.l.length cF (aA (Cf.eh (oc t) g.l k))]/\k<=g.l.length) (g.l.length) ?_ ?_
  ·exact⟨[(50,_)],Kc,0,rfl,rfl,by rw[CX],K1⟩
  rintro _ _ _ ⟨k,rfl,rfl,rfl,hk⟩;have hul:=GR (oc t) g.l k;refine Zc ?_ ?_
  ·refine Zx (k:=Z4y ?_);intro hc;refine CW.put 10 (U ((g.l.getD k 0).toNat:Int)) rfl (by rw[yC K1]) ?_
   refine Zs ?_ ?_
   all_goals
    refine Zd ?_ ?_
    ·try exact⟨⟩
     all_goals
      refine Z4t ?_;intros;refine Z16 (k:=Z4t ?_);refine⟨_,[(50,_)],[0,0,0,0,0,0],_,?_,Kc,rfl,k+1,rfl,rfl,by rw[<-vh (show k<g.l.length by omega) (acb K1 K1)],K1⟩
      omega
    try exact⟨⟩
    all_goals
     refine Z4t ?_;intros;refine⟨_,[(50,_)],[0,0,0,0,0,0],_,?_,Kc,rfl,k+1,rfl,rfl,by rw[<-Bv (show k<g.l.length by omega) (XE K1)],K1⟩
     omega
  refine Z4u ?_;intro hc;have hk1:k=g.l.length:=K1;refine Z4t ?_;refine CW.sels [2,0,0,0,0,0] rfl ?_;refine CW.av [1,2,4,7,8,69,70] 1 rfl rfl (fun mm mods Hm=>∃k:Nat,mm=g.s.length-k/\mods=[(71,J k)]/\Hm=[HP.row 5 1 AS g.s.length cS (aA (Cf.eh (Cf.os t) g.s k))]/\k<=g.s.length) (g.s.length) ?_ ?_
  ·exact⟨[(71,_)],Kc,0,rfl,rfl,by rw[CX],K1⟩
  rintro _ _ _ ⟨k,rfl,rfl,rfl,hk⟩;have hul:=GR (Cf.os t) g.s k;refine Zc ?_ ?_
  ·refine Zx (k:=Z4y ?_);intro hc;refine CW.put 12 (U ((g.s.getD k 0).toNat:Int)) rfl (by rw[yC K1]) ?_
   refine Zc ?_ ?_
   ·refine Z4t ?_;intros;refine Z16 (k:=Z4t ?_);refine⟨_,[(71,_)],[0,0,0,0,0,0],_,?_,Kc,rfl,k+1,rfl,rfl,by rw[<-vh (show k<g.s.length by omega) (abo K1)],K1⟩
    omega
   refine Z4t ?_;intros;refine⟨_,[(71,_)],[0,0,0,0,0,0],_,?_,Kc,rfl,k+1,rfl,rfl,by rw[<-Bv (show k<g.s.length by omega) (Xc K1)],K1⟩
   omega
  refine Z4u ?_;intros;have hk2:k=g.s.length:=K1;refine CW.dV mixed [2,4] rfl ?_;iterate 8 refine Z4v ?_
  refine Z4D ?_;refine OW.call Mx rfl rfl rfl rfl rfl rfl _ (fun w hw=>abf (g.ts.getD t.toNat Tm.z) w (hw.oP (hg.m _ (Tm.mem K1))) (aP.HG hgf _ (Tm.mem K1))) ?_;rintro _ _ ⟨mC,rfl,rfl,hmC⟩;refine Zj (k:=Za (k:=Z4H ?_));refine OW.L3 (i:=4) Js rfl rfl rfl rfl rfl rfl K1 (by simp;done) ?_
  refine Z4u ?_;refine CW.adX g.ts.length ?_;refine CW.YQ 2 0 t.toNat rfl rfl K17 ?_;refine CW.chunk 1 (HP.row 65 8 AT ((List.replicate g.ts.length Tm.z).set t.toNat mC).length g.ts.length (tms ((List.replicate g.ts.length Tm.z).set t.toNat mC))) rfl (by rw[aM,eZ]) ?_
  refine CW.chunk 2 (HP.row 5 1 AS (g.s.map (Cf.os t)).length cS (aA (g.s.map (Cf.os t)))) rfl (by rw[hk2,Hg,bZ]) ?_
  refine CW.chunk 3 (HP.row 5 1 AF (g.l.map (oc t)).length cF (aA (g.l.map (oc t)))) rfl (by rw[hk1,Hg,bZ]) ?_
  refine CW.aX [0,0,0,0,0,0,0] 4 rfl rfl ?_;refine Zr (k:=Z4Q ?_);rw[show lI g.q t=(Cf.only g.q t,0) from(aa hcz).trans (aa hpp)];exact⟨⟨g.a,g.b,g.l.map (oc t),g.s.map (Cf.os t),((List.replicate g.ts.length Tm.z).set t.toNat mC),g.st,AF,cF,AS,cS,AT,g.ts.length⟩,by simp[aP.v,aP.cells],rfl,by simp only[aP.q,Cf.only];rw[O0 htb hmC];rfl⟩
def vF{a:Int}{b:Int}(w:World):(Instr.buildSlice 233 1 #[(0,.agg #[J a,J b])]).run prog w=.ok (.slice (some ⟨w.heap.size,0,none⟩) 1 1) (w.alloc (.cells #[J a,J b] 238)):=K0
instance(a b:Int):CB 238 #[(0,J a),(1,J b)] ((.agg #[J a,J b])):=⟨fun _=>K0⟩
instance cY{a:Int}{b:am}{c d:Nat}{e:am}{f g:Nat}:CB 120 #[(0,J a),(1,.slice b c d),(4,.slice e f g)] ((.agg #[J a,.slice b c d,.slice none 0 0,.slice none 0 0,.slice e f g])):=⟨fun _=>K0⟩
def uj{a:am}{b c:Nat}(w:World):(Instr.buildSlice 117 1 #[(0,.slice a b c)]).run prog w=.ok (.slice (some ⟨w.heap.size,0,none⟩) 1 1) (w.alloc (.cells #[.slice a b c] 116)):=K0
def tT{a:am}{b c:Nat}(w:World):(Instr.buildSlice 118 1 #[(0,.slice a b c)]).run prog w=.ok (.slice (some ⟨w.heap.size,0,none⟩) 1 1) (w.alloc (.cells #[.slice a b c] 63)):=K0
instance(a b:Int):CB 115 #[(0,J a),(1,J b)] ((.agg #[J a,J b])):=⟨fun _=>K0⟩
def Fy{a:Int}{b:Int}(w:World):(Instr.buildSlice 111 1 #[(0,.agg #[J a,J b])]).run prog w=.ok (.slice (some ⟨w.heap.size,0,none⟩) 1 1) (w.alloc (.cells #[J a,J b] 115)):=K0
instance:CB 74 #[] ((.agg #[.slice none 0 0])):=⟨fun _=>K0⟩
def hO(a:Int)(w:World):(Instr.buildSlice 22 1 #[(0,U a)]).run prog w=.ok (.slice (some ⟨w.heap.size,0,none⟩) 1 1) (w.alloc (.cells #[U a] 5)):=K0
def pO{a:Int}{b:Int}{c:Int}{d:Int}{e:Int}(w:World):(Instr.buildSlice 63 5 #[(0,J a),(1,J b),(2,J c),(3,J d),(4,J e)]).run prog w=.ok (.slice (some ⟨w.heap.size,0,none⟩) 5 5) (w.alloc (.cells #[J a,J b,J c,J d,J e] 3)):=K0
def EO(B:Nat)(bs:ap)(n:Int)(S:Nat->Prop)(w0:World)(hS:(HP.Jd B bs).bA S w0)(hb:∀k,S k->k<w0.heap.size)(hz:bs.length<=100000):
  CF 24 #[Y B 0,J n] w0 S fun v Hn=>Hn=[HP.Jd B (bs++[eo n])]:=by
 refine Zp (HA.au hS hb) ?_;refine Z17 (k:=fun AW cW=>Zr (k:=Z18 hO (k:=fun A1=>?_)));refine OW.np (j:=0) (i:=1) (eo n) (by exact jH _) Ux Jx rfl rfl rfl rfl rfl rfl rfl rfl rfl rfl K3 (fun A2 c2=>?_)
 refine Z4L ?_;refine OW.Dp 0 0 rfl rfl ?_;refine Zl ?_;exact rfl
def O8(B:Nat)(bs:ap)(A:am)(c:Nat)(l:bv)(S:Nat->Prop)(w0:World)(hS:(HP.Jd B bs).bA S w0)(hb:∀k,S k->k<w0.heap.size)(hz:bs.length+l.length<=90000)(hX:Rd w0 (Fm w0 S) A (ints l)):
  CF 47 #[Y B 0,.slice A l.length c] w0 S fun v Hn=>Hn=[HP.Jd B (bs++iT l)]:=by
 refine Zp (HA.au hS hb) ?_;refine Zh @EO ?_;refine Z4t ?_;intros;refine CW.av [0,10,11] 1 rfl rfl (fun mm mods Hm=>∃k:Nat,mm=l.length-k/\mods=[(12,J k)]/\Hm=[HP.Jd B (bs++[eo l.length]++(l.take k).map eo)]/\k<=l.length) (l.length) ?_ ?_
 ·exact⟨[(12,_)],Kc,0,rfl,rfl,by simp,K1⟩
 rintro _ _ _ ⟨k,rfl,rfl,rfl,hk⟩;have hlk:(bs++[eo l.length]++(l.take k).map eo).length<=100000:=by simp;omega
 refine Zc ?_ ?_
 ·refine Zh @EO ?_;refine Z4t ?_;intros;refine⟨_,[(12,_)],[0],_,?_,Kc,rfl,k+1,rfl,rfl,by rw[<-wZ (show k<l.length by omega) rfl,<-aQ],K1⟩
  omega
 refine Zl ?_;intros;obtain rfl:k=l.length:=K1;simp[iT]
def XT(B:Nat)(bs:ap)(m:Tm)(S:Nat->Prop)(w0:World)(hS:(HP.Jd B bs).bA S w0)(hb:∀k,S k->k<w0.heap.size)(hz:bs.length<=10000)(hsm:small m.q)(hm:m.rd w0 (Fm w0 S)):
  CF 25 #[Y B 0,m.v] w0 S fun v Hn=>Hn=[HP.Jd B (bs++sE m.q)]:=by
 obtain⟨hX,hY,hZ⟩:=hm;have h5:(nR m.q).length=5:=rfl;obtain⟨hs1,hs2,hs3⟩:=hsm;have hl1:(iT m.q.h).length=m.q.h.length+1:=by simp[iT]
 have hl2:(iT m.q.p).length=m.q.p.length+1:=by simp[iT]
 have hl3:(iT m.q.d).length=m.q.d.length+1:=by simp[iT]
 refine Zp (HA.au hS hb) ?_;refine Zh @O8 ?_;refine Zc ?_ ?_
 ·refine Zl ?_;intros;have h0:m.q.h.length=0:=K1;simp[sE,h0]
 refine Zh @O8 ?_;refine Zh @O8 ?_;refine Z4t ?_;intro _ _ hc _ _;refine OW.bsl 1 (ints (nR m.q)) rfl rfl (fun w=>pO w) (fun AL=>?_);refine Z4t ?_;refine CW.sels [1,0,0] rfl ?_;refine CW.av [0,32,33] 1 rfl rfl (fun mm mods Hm=>∃k:Nat,mm=5-k/\mods=[(34,J k)]/\Hm=[HP.Jd B (bs++iT m.q.h++iT m.q.p++iT m.q.d++((nR m.q).take k).map eo)]/\k<=5) (5) ?_ ?_
 ·exact⟨[(34,_)],Kc,0,rfl,rfl,by simp,K1⟩
 rintro _ _ _ ⟨k,rfl,rfl,rfl,hk⟩;have hlk:(bs++iT m.q.h++iT m.q.p++iT m.q.d++((nR m.q).take k).map eo).length<=100000:=by simp;omega
 refine Zc ?_ ?_
 ·refine Zh @EO ?_;refine Z4t ?_;intros;refine⟨_,[(34,_)],[0,0,0],_,?_,Kc,rfl,k+1,rfl,rfl,by rw[<-wZ (show k<(nR m.q).length by omega) rfl,<-aQ],K1⟩
  omega
 refine Zl ?_;intros;have h0:¬m.q.h.length=0:=K1;obtain rfl:k=5:=K1;rw[show((nR m.q).take 5)=(nR m.q) from rfl];simp only[sE,ae h0,aQ]
def Su(A:am)(c:Nat)(bs:ap)(n:Int)(S:Nat->Prop)(w0:World)(hS:(HP.row 5 1 A bs.length c (aA bs)).bA S w0)(hb:∀k,S k->k<w0.heap.size)(hz:bs.length<=100000)(hn:0<=n/\n<18446744073709551616):
  CF 48 #[.slice A bs.length c,V n,J 8] w0 S fun v Hn=>∃A2 c2,v=.slice A2 (bs++be n 8).length c2/\Hn=[HP.row 5 1 A2 (bs++be n 8).length c2 (aA (bs++be n 8))]:=by
 refine Zp (HA.au hS hb) ?_;refine Z4t ?_;refine CW.av [1] 1 rfl rfl (fun mm mods Hm=>∃k:Nat,∃D:am,∃e:Nat,mm=8-k/\mods=[(7,J (7-(k:Int))),(0,.slice D (bs++be n k).length e)]/\Hm=[HP.row 5 1 D (bs++be n k).length e (aA (bs++be n k))]/\k<=8) (8) ?_ ?_
 ·exact⟨[(7,_),(0,_)],Kc,0,A,c,rfl,by simp[be],by simp[be],K1⟩
 rintro _ _ _ ⟨k,D,e,rfl,rfl,rfl,hk⟩;have hbl:(bs++be n k).length=bs.length+k:=by simp[be]
 refine Zc ?_ ?_
 ·refine Z4t ?_;intros;refine Z18 hO (k:=fun A1=>?_);refine OW.np (j:=0) (i:=0) (eo (n/256^(7-k))) (by exact UH n K1) Ux Jx rfl rfl rfl rfl rfl rfl rfl rfl rfl rfl K3 (fun A2 c2=>?_)
  refine Z4t ?_;refine⟨_,[(7,_),(0,_)],[0],_,?_,Kc,rfl,k+1,_,_,rfl,by rw[yW,<-aQ,Int.natCast_succ,Int.sub_sub],by rw[yW,<-aQ],K1⟩
  omega
 refine Zl ?_;intros;obtain rfl:k=8:=K1;exact⟨_,_,rfl,rfl⟩
def U7(A:am)(c:Nat)(bs:ap)(n:Int)(w0:World)(hz:bs.length<=8000)(hn:0<=n/\n<18446744073709551616)(hX:ce w0 A (aA bs)):
  CO 26 #[.slice A bs.length c,V n,J 8] w0 fun v Hn=>∃A2 c2,v=.tuple #[.slice A2 (bs++be n 8).length c2,J 0]/\Hn=[HP.row 5 1 A2 (bs++be n 8).length c2 (aA (bs++be n 8))]:=by
 refine Zq ?_;refine Zg @fF ?_;refine Zh @Su ?_;refine Zl ?_;intros;exact⟨_,_,rfl,rfl⟩
def LU(g:aP)(w0:World)(hg:g.rd w0 (Old w0))(hgf:g.q.fit):
  CO 9 #[g.v] w0 fun v Hn=>∃A2 c2,v=.tuple #[.slice A2 ((kZ g.q).1).length c2,J (kZ g.q).2]/\Hn=[HP.row 5 1 A2 ((kZ g.q).1).length c2 (aA ((kZ g.q).1))]:=by
 obtain⟨hX1,hX2,hX3,hX4⟩:=id hg;have hgl:=aP.cj hgf;have htn:=aP.eJ g;refine Zq ?_;refine Zg @o0 ?_;refine Zc ?_ ?_
 ·refine Z4u ?_;intros;refine ZV (k:=?_);refine Zl ?_;rw[show kZ g.q=([],Cf.check g.q) from ae K2];exact⟨none,0,rfl,rfl⟩
 refine Z4u ?_;intro _ hc;have hcz:Cf.check g.q=0:=by assumption
 have hz:=az hcz;have h64:=jo hz.1;have h16:=(eX.1 hz.2.1).1;have ht3:=dw hz.2.2.1;rw[htn] at ht3;have hl6:g.l.length<=64:=h64;have hs6:g.s.length<=16:=h16.2;refine Z4y ?_;intro B2;refine ZV (k:=?_);refine CW.Dp (bs:=[]) 1 0 rfl rfl ?_;refine Zh @EO ?_;refine Zh @EO ?_;refine Z4u ?_;intros;refine Z17 (k:=fun AW cW=>Z19 (k:=?_));iterate 8 refine Z4v ?_
 refine Z4D ?_;refine OW.iP (i:=1) Ux Jx rfl rfl rfl rfl rfl rfl rfl rfl rfl (oh hX1) K3 (fun A3 c3=>?_);refine Z4u ?_;refine CW.Dp 0 0 rfl rfl ?_;refine Zh @EO ?_;refine Z4u ?_;intros;refine Z17 (k:=fun AW cW=>Z19 (k:=?_));iterate 7 refine Z4v ?_
 refine Z4O ?_;refine OW.iP (i:=1) Ux Jx rfl rfl rfl rfl rfl rfl rfl rfl rfl (oh hX2) K3 (fun A4 c4=>?_);refine Z4u ?_;refine CW.Dp 0 0 rfl rfl ?_;refine Zh @EO ?_;refine Z4u ?_;intros;refine CW.chunk 0 (HP.Jd B2 (head g.q)) rfl (by simp[head,aP.q]) ?_
 refine Z4t ?_;refine CW.av [1,5,57,58] 1 rfl rfl (fun mm mods Hm=>∃k:Nat,mm=g.ts.length-k/\mods=[(59,J k)]/\Hm=[HP.Jd B2 (head g.q++gJ g.q.ts k)]/\k<=g.ts.length) (g.ts.length) ?_ ?_
 ·exact⟨[(59,_)],Kc,0,rfl,rfl,by simp[gJ],K1⟩
 rintro _ _ _ ⟨k,rfl,rfl,rfl,hk⟩;have hdl:=CD hcz (k:=k) K1;refine Zc ?_ ?_
 ·refine Z4t ?_;intro hc _;refine OW.aU Mx rfl rfl rfl rfl rfl rfl _ 1 rfl (fun w S hw hs hb hc=>XT _ _ (g.ts.getD k Tm.z) S w hs (fun k hk=>(hb k hk).1) K1 (xu hcz _ (by rw[<-aP.lz];exact qX K1)) (hw.vD (hg.m _ (Tm.mem K1)) hb)) ?_;rintro _ _ rfl
  refine Z4t ?_;refine⟨_,[(59,_)],[0,1],_,?_,Kc,rfl,k+1,rfl,rfl,by rw[oH K1,aP.lz,<-aQ],K1⟩
  omega
 refine Z4u ?_;intros;obtain rfl:k=g.q.ts.length:=K1;have hst:=hgf.st;refine Z17 (k:=fun AW cW=>Z1b (k:=?_));iterate 6 refine Z4v ?_
 refine Z4N ?_;refine Zg @U7 ?_;refine Zl ?_;intros;rw[show kZ g.q=(Cf.enc g.q,0) from aa hcz];exact⟨_,_,rfl,rfl⟩
def Nq(A:am)(c:Nat)(l:ap)(w0:World)(h8:l.length<=8)(hX:ce w0 A (aA l)):
  CV 95 #[.slice A l.length c] w0 (V (aO l)):=by
 refine Zq ?_;refine Z4t ?_;refine CW.av [6,7] 0 rfl rfl (fun mm mods Hm=>∃k:Nat,mm=l.length-k/\mods=[(8,J k),(3,V (aO (l.take k)))]/\Hm=[]/\k<=l.length) (l.length) ?_ ?_
 ·exact⟨[(8,_),(3,_)],Kc,0,rfl,rfl,rfl,K1⟩
 rintro _ _ _ ⟨k,rfl,rfl,rfl,hk⟩;refine Zc ?_ ?_
 ·refine Z4u ?_;intros;have hbv:=Aq (l:=l.take k) K17;have hy:=(l.getD k 0).toNat_lt;refine Zy (k:=Z4z ?_);iterate 2 refine Z4x ?_
  refine OW.put 13 (V ((aO (l.take k))*256)) rfl (by rw[show(2:Int)^min (Int.toNat 8) IntKind.u64.bits=256 from by decide];refine aq (Value.int .u64) ?_;simp only[IntKind.wrap_u64];omega) ?_
  refine Z4t ?_;refine OW.pure rfl rfl rfl (PV.or8 K1 K1 rfl rfl rfl) ?_;refine Z4t ?_;refine⟨_,[(8,_),(3,_)],[],_,?_,Kc,rfl,k+1,rfl,by rw[Fv (show k<l.length by omega)]<;>rfl,rfl,K1⟩
  omega
 refine Zk ?_;intros;obtain rfl:k=l.length:=K1;exact⟨by rw[bJ],rfl⟩
def Nf(A:am)(c:Nat)(b:ap)(p m:Nat)(w0:World)(hc8:b.length<=c)(hl:b.length<=100000)(hp:p<=b.length)(hm:m<=100000)(hX:ce w0 A (aA b)):
  CO 94 #[.slice A b.length c,J p,J m] w0 fun v Hn=>∃A2 c2 L q e,v=.tuple #[.slice A2 (List.length L) c2,J q,J e]/\Hn=[HP.row 5 1 A2 (List.length L) c2 (aA L)]/\(p+m<=b.length/\L=(b.drop p).take m/\q=p+m/\e=0\/b.length<p+m/\L=[]/\e=10):=by
 refine Zq ?_;refine Zc ?_ ?_
 ·refine Z4u ?_;intros;refine ZV (k:=?_);refine Zl ?_;exact⟨none,0,[],_,_,rfl,rfl,.inr ⟨K1,rfl,rfl⟩⟩
 refine Z4t ?_;intros;refine OW.pure rfl rfl rfl (PV.aaU (lo:=p) (hi:=p+m) Ux Jx rfl rfl rfl rfl K1 K1) ?_;refine OW.put 32 (.slice (fu A c p) (List.length ((b.drop p).take m)) (c-p)) rfl (by rw[cf,bN,nv K1,Nat.add_sub_cancel_left]) ?_
 refine OW.call Mx rfl rfl rfl rfl rfl rfl _ (fun w hw=>fF _ _ ((b.drop p).take m) w K17 (hw.rd (qD hX K1 hc8))) ?_;rintro _ _ ⟨AK,cK,rfl,rfl⟩;refine Zl ?_;exact⟨_,_,_,_,_,rfl,rfl,.inl ⟨K1,rfl,rfl,rfl⟩⟩
def G9(A:am)(c:Nat)(b:ap)(p m:Nat)(w0:World)(hc8:b.length<=c)(hl:b.length<=100000)(hp:p<=b.length)(hm:1<=m/\m<=8)(hX:ce w0 A (aA b)):
  CO 58 #[.slice A b.length c,J p,J m] w0 fun v Hn=>∃x q e,v=.tuple #[V x,J q,J e]/\Hn=[]/\(p+m<=b.length/\x=aO ((b.drop p).take m)/\q=p+m/\e=0\/b.length<p+m/\x=0/\e=10):=by
 refine Zq ?_;refine Zg @Nf ?_;refine Z4u ?_;intro _ _ _ LL _ _ hTB;have hLl:LL.length<=8:=by rcases hTB with⟨_,h,_⟩|⟨_,h,_⟩<;>rw[h]<;>simp<;>omega
 refine Zg @Nq ?_;refine Zk ?_;exact⟨_,_,_,rfl,rfl,by rcases hTB with⟨h1,h2,h3,h4⟩|⟨h1,h2,h3⟩;exact .inl ⟨h1,by rw[h2],h3,h4⟩;exact .inr ⟨h1,by rw[h2]<;>rfl,h3⟩⟩
def NW(B:Nat)(A:am)(c:Nat)(b:ap)(p:Nat)(e:Int)(m:Nat)(S:Nat->Prop)(w0:World)(hm:1<=m/\m<=8)(hS:(HP.aw B 186 [.slice A b.length c,J p,J e]).bA S w0)(hb:∀k,S k->k<w0.heap.size)(hc8:b.length<=c)(hl:b.length<=100000)(hp:p<=b.length)(he:e=0\/e=10)(hX:Rd w0 (Fm w0 S) A (aA b)):
  CF 85 #[Y B 0,J m] w0 S fun v Hn=>∃(x:Int) (p2:Nat) (e2:Int),v=V x/\Hn=[HP.aw B 186 [.slice A b.length c,J p2,J e2]]/\p2<=b.length/\(e2=0\/e2=10)/\(0<=x/\x<18446744073709551616/\(m=1->x<256))/\Res (lO m) (str b p e) x (str b p2 e2):=by
 refine Zp (HA.au hS hb) ?_;refine Zc ?_ ?_
 ·refine Zl ?_;intros;exact⟨0,p,e,rfl,rfl,hp,he,K1,Gh K1 K1⟩
 refine Z4u ?_;intro hc;refine Z4R ?_;iterate 9 refine Z4v ?_
 refine Z1d (k:=?_);refine Zg @G9 ?_;refine Zc ?_ ?_
 ·refine Z4u ?_;intro _ _ _ hTU _;obtain⟨h1,h2,h3⟩:=hTU.resolve_left (fun h=>by omega)
  obtain rfl:e=0:=K1;refine CW.put 7 (J 10) rfl K39 ?_;refine Zl ?_;exact⟨0,p,10,rfl,rfl,hp,.inr rfl,K1,MG h1 hp⟩
 refine Z4u ?_;intro _ _ _ hTU _;obtain⟨h1,h2,h3,h4⟩:=hTU.resolve_right (fun h=>by omega)
 obtain rfl:e=0:=K1;refine CW.put 6 (J ((p+m:Nat):Int)) rfl K39 ?_;refine Zl ?_;have hbu:=wS (l:=(b.drop p).take m) K17;exact⟨_,p+m,0,rfl,rfl,h1,.inl rfl,⟨by rw[h2];exact hbu.1,by rw[h2];exact hbu.2,fun hm1=>by rw[h2];exact ET K17⟩,by rw[h2];exact UG h1⟩
def rI(B:Nat)(A:am)(c:Nat)(b:ap)(p:Nat)(e:Int)(S:Nat->Prop)(w0:World)(hS:(HP.aw B 186 [.slice A b.length c,J p,J e]).bA S w0)(hb:∀k,S k->k<w0.heap.size)(hc8:b.length<=c)(hl:b.length<=100000)(hp:p<=b.length)(he:e=0\/e=10)(hX:Rd w0 (Fm w0 S) A (aA b)):
  CF 81 #[Y B 0] w0 S fun v Hn=>∃(x:Nat) (p2:Nat) (e2:Int),v=J x/\Hn=[HP.aw B 186 [.slice A b.length c,J p2,J e2]]/\p2<=b.length/\(e2=0\/e2=10)/\x<256/\Res n1 (str b p e) x (str b p2 e2):=by
 refine Zp (HA.au hS hb) ?_;refine Zh @NW ?_;intro xM pM eM hpM heM hxM hrM;have hx256:=hxM.2.2 rfl;refine Zl ?_;exact⟨xM.toNat,pM,eM,by rw[af hxM.1],rfl,hpM,heM,K1,aae hrM⟩
def D8(B:Nat)(A:am)(c:Nat)(b:ap)(p:Nat)(e:Int)(m:Nat)(S:Nat->Prop)(w0:World)(hm:m<=100000)(hS:(HP.aw B 186 [.slice A b.length c,J p,J e]).bA S w0)(hb:∀k,S k->k<w0.heap.size)(hc8:b.length<=c)(hl:b.length<=100000)(hp:p<=b.length)(he:e=0\/e=10)(hX:Rd w0 (Fm w0 S) A (aA b)):
  CF 82 #[Y B 0,J m] w0 S fun v Hn=>∃A2 c2 L p2 e2,v=.slice A2 (List.length L) c2/\Hn=[HP.row 5 1 A2 (List.length L) c2 (aA L),HP.aw B 186 [.slice A b.length c,J (p2:Nat),J e2]]/\p2<=b.length/\(e2=0\/e2=10)/\L.length<=m/\Res (Cf.tk m) (str b p e) L (str b p2 e2):=by
 refine Zp (HA.au hS hb) ?_;refine Zc ?_ ?_
 ·refine Z4u ?_;intros;refine ZV (k:=Zr (k:=Z1e (k:=?_)));exact⟨none,0,[],p,e,rfl,rfl,hp,he,bF _,Gh K1 K1⟩
 refine Z4u ?_;intro hc;refine Z4R ?_;iterate 9 refine Z4v ?_
 refine Z1d (k:=?_);refine Zg @Nf ?_;refine Zc ?_ ?_
 ·refine Z4u ?_;intro _ _ _ _ _ hTB _;obtain⟨h1,h2,h3⟩:=hTB.resolve_left (fun h=>by omega)
  obtain rfl:e=0:=K1;refine CW.put 7 (J 10) rfl K39 ?_;refine Zy (k:=ZV (k:=Zr (k:=Z1e (k:=?_))));exact⟨none,0,[],p,10,rfl,rfl,hp,.inr rfl,bF _,T0 h1 hp⟩
 refine Z4u ?_;intro _ _ LL _ _ hTB _;obtain⟨h1,h2,h3,h4⟩:=hTB.resolve_right (fun h=>by omega)
 obtain rfl:e=0:=K1;refine CW.put 6 (J ((p+m:Nat):Int)) rfl K39 ?_;refine Z4t ?_;refine KR.one [1,0] rfl rfl rfl ?_;exact⟨_,_,LL,p+m,0,rfl,rfl,h1,.inl rfl,by rw[h2,cf];omega,by rw[h2];exact WX h1⟩
def FP(B:Nat)(A:am)(c:Nat)(b:ap)(p:Nat)(e:Int)(S:Nat->Prop)(w0:World)(hS:(HP.aw B 186 [.slice A b.length c,J p,J e]).bA S w0)(hb:∀k,S k->k<w0.heap.size)(hc8:b.length<=c)(hl:b.length<=100000)(hp:p<=b.length)(he:e=0\/e=10)(hX:Rd w0 (Fm w0 S) A (aA b)):
  CF 114 #[Y B 0] w0 S fun v Hn=>∃A2 c2 L p2 e2,v=.slice A2 (List.length L) c2/\Hn=[HP.row 3 1 A2 (List.length L) c2 (ints L),HP.aw B 186 [.slice A b.length c,J (p2:Nat),J e2]]/\p2<=b.length/\(e2=0\/e2=10)/\(L.length<=255/\∀n∈L,0<=n/\n<256)/\Res Cf.ls (str b p e) L (str b p2 e2):=by
 refine Zp (HA.au hS hb) ?_;refine Zx (k:=Zy (k:=Zy (k:=ZC (k:=?_))));refine Zh @rI ?_;refine Zh @D8 ?_;refine Z4t ?_;intro _ _ _ _ _ _ hrN _ _ LB _ _ hpB heB _ hrB;refine CW.sels [2,1,0] rfl ?_;refine CW.av [9,10] 1 rfl rfl (fun mm mods Hm=>∃k:Nat,∃D:am,∃q:Nat,mm=LB.length-k/\mods=[(11,J k),(3,.slice D (Cf.is (LB.take k)).length q)]/\Hm=[HP.row 3 1 D (Cf.is (LB.take k)).length q (ints (Cf.is (LB.take k)))]/\k<=LB.length) (LB.length) ?_ ?_
 ·exact⟨[(11,_),(3,_)],Kc,0,none,0,rfl,rfl,rfl,K1⟩
 rintro _ _ _ ⟨k,D,q,rfl,rfl,rfl,hk⟩;have hil:(Cf.is (LB.take k)).length=k:=by simp[Cf.is];omega
 refine Zc ?_ ?_
 ·refine Z4t ?_;intros;refine Z18 df (k:=fun A1=>?_);refine OW.ga (j:=0) (i:=0) Ux Jx rfl rfl rfl rfl rfl rfl rfl rfl rfl rfl K3 (fun A2 c2=>?_);refine Z4t ?_;refine⟨_,[(11,_),(3,_)],[0,0,0],_,?_,Kc,rfl,k+1,_,_,rfl,by rw[Gt (show k<LB.length by omega)]<;>rfl,by rw[Gt (show k<LB.length by omega)],K1⟩
  omega
 refine Z4t ?_;intros;refine Z1e (k:=?_);obtain rfl:k=LB.length:=K1;rw[bJ];exact⟨_,_,_,_,_,rfl,rfl,hpB,heB,⟨by simp[Cf.is];omega,ad3⟩,WH hrN hrB⟩
instance(a:am)(b c:Nat):CB 65 #[(0,.slice a b c)] ((.agg #[.slice a b c,.slice none 0 0,.slice none 0 0,J 0,J 0,J 0,J 0,J 0])):=⟨fun _=>K0⟩
def oE{a:am}{b:am}{c:am}{d:am}{e:am}(w:World):(Instr.buildSlice 244 5 #[(0,.pointer a),(1,.pointer b),(2,.pointer c),(3,.pointer d),(4,.pointer e)]).run prog w=.ok (.slice (some ⟨w.heap.size,0,none⟩) 5 5) (w.alloc (.cells #[.pointer a,.pointer b,.pointer c,.pointer d,.pointer e] 243)):=K0
end Go.Proofs.YtcgecopggfjojaaGreatDoor
