/- Part 14: the logic, the plain laws and the walks behind TopAlone (lemmas only; each says its own conditions). -/
import Derived.Test.YtcgecopggfjojaaGreatDoorK13
set_option maxRecDepth 100000
set_option linter.all false
set_option maxHeartbeats 0
namespace Go.Proofs.YtcgecopggfjojaaGreatDoor
open Go Go.RowKit Go.Proofs.Tryz E Fl Cf Od Bf Cr Rt Tr Gw Dg Au Wi
attribute [local irreducible] E.CW E.OW E.QW E.AW E.lJ E.blockK E.PV
def Ur(prev:ap)(tk kd cd:Int)(A:am)(c:Nat)(b:ap)(w0:World)(hp:prev.length=32)(hb:b.length<=8192)(hX:ce w0 A (aA b))(hK:ce w0 (some ⟨1,0,.none⟩) (dm ks)):
  CV 186 #[.agg (xv prev).toArray,V tk,U kd,J cd,.slice A b.length c] w0 (.tuple #[.agg (xv (link prev tk kd cd b).1).toArray,J (link prev tk kd cd b).2]):=by
 refine Zq ?_;refine Zx (k:=Z4y ?_);intro BP _;refine Z4z ?_;iterate 4 refine Z4x ?_
 refine OW.put 18 (Rc.v ⟨tk,kd,cd,z32⟩) rfl rfl ?_;refine Zg @HZ ?_;refine Zc ?_ ?_
 ·refine Zk ?_;intros;have e9:(link prev tk kd cd b)=(z32,2):=ae K8;exact⟨by rw[e9]<;>rfl,rfl⟩
 refine Zc ?_ ?_
 ·refine Zk ?_;intros;have e9:(link prev tk kd cd b)=(z32,4):=(aa K8).trans (aa K1);exact⟨by rw[e9]<;>rfl,rfl⟩
 refine Zg @zl ?_;iterate 4 refine Z4x ?_
 intro hc hc BM;refine OW.put 29 (.agg (xv (sum b)).toArray) rfl (by rw[mD (gh b)]<;>rfl) ?_
 refine Z4t ?_;refine OW.pure rfl rfl rfl (PV.zg Ux Jx rfl rfl) ?_;refine OW.put 35 (.slice (some ⟨BP,0,.none⟩) prev.length 32) rfl (by rw[hp]) ?_
 refine OW.call Mx rfl rfl rfl rfl rfl rfl _ (fun w hw=>fF _ _ prev w K1 (by first|exact hw.wH (i:=0) hp rfl|exact hw.wH (i:=1) hp rfl|exact hw.wH (i:=2) hp rfl|exact hw.wH (i:=3) hp rfl|exact hw.wH (i:=4) hp rfl)) ?_;rintro _ _ ⟨AK,cK,rfl,rfl⟩
 refine Z4u ?_;intro BW;refine CW.Qq 0 0 rfl rfl ?_;refine Zh @dg ?_;refine Zh @dg ?_;refine Zh @dg ?_;refine Z4u ?_;intros;refine Z3E (k:=fun AW cW=>Z4R ?_);iterate 4 refine Z4v ?_
 refine E.AW.fT 4 rfl K0 K0 K0 rfl rfl rfl (PV.zg Ux Jx rfl rfl) ?_;refine E.AW.put 54 (.slice (some ⟨BM,0,.none⟩) (sum b).length 32) rfl (by rw[gh b]) ?_
 refine Z4G ?_;refine OW.iP (i:=1) Ux Jx rfl rfl rfl rfl rfl rfl rfl rfl rfl (fun w hw=>hw.wH (i:=2) (l:=sum b) (gh b) rfl) (by first|omega|(simp only[aF,eS] at*;omega)|(simp only[aF,eS,gh];omega)) (fun A5 c5=>?_)
 refine Zj (k:=Z4N ?_);refine Zg @zl ?_;refine Z4w ?_;iterate 2 refine Z4v ?_
 refine E.AW.put 57 (.agg (xv (sum (prev++Dg.bs tk 8 8++Dg.bs (IntKind.u64.wrap kd) 1 1++Dg.bs (IntKind.u64.wrap cd) 2 2++sum b))).toArray) rfl (by rw[mD (gh _)]<;>rfl) ?_
 refine Zk ?_;have e9:(link prev tk kd cd b)=(sum (prev++Dg.bs tk 8 8++Dg.bs (IntKind.u64.wrap kd) 1 1++Dg.bs (IntKind.u64.wrap cd) 2 2++sum b),0):=(aa K8).trans (ae K1);exact⟨by rw[e9]<;>rfl,rfl⟩
instance:CB 130 #[] ((.agg #[O 0,U 0,U 0,U 0,U 0,U 0,U 0,U 0,U 0,U 0,U 0,U 0,U 0,U 0,U 0,U 0,U 0,U 0,U 0,U 0,U 0,U 0,U 0,U 0,U 0,U 0,U 0,U 0,U 0,U 0,U 0,U 0,U 0,.slice none 0 0])):=⟨fun _=>K0⟩
instance zk{a:Int}{b:Int}{c:Int}{d:Int}{e:Int}{f:Int}{g:Int}{h:Int}{i:Int}{j:Int}{k:Int}{l:Int}{m:Int}{n:Int}{o:Int}{p:Int}{q:Int}{r:Int}{s:Int}{t:Int}{u:Int}{v:Int}{x:Int}{y:Int}{z:Int}{A:Int}{B:Int}{C:Int}{D:Int}{F:Int}{G:Int}{H:Int}{I:Int}{L:am}{M N:Nat}:CB 130 #[(0,O a),(1,.agg #[U b,U c,U d,U e,U f,U g,U h,U i,U j,U k,U l,U m,U n,U o,U p,U q,U r,U s,U t,U u,U v,U x,U y,U z,U A,U B,U C,U D,U F,U G,U H,U I]),(2,.slice L M N)] ((.agg #[O a,U b,U c,U d,U e,U f,U g,U h,U i,U j,U k,U l,U m,U n,U o,U p,U q,U r,U s,U t,U u,U v,U x,U y,U z,U A,U B,U C,U D,U F,U G,U H,U I,.slice L M N])):=⟨fun _=>K0⟩
instance u0{a:Int}{b:Int}{c:Int}{d:Int}{e:Int}{f:Int}{g:Int}{h:Int}{i:Int}{j:Int}{k:Int}{l:Int}{m:Int}{n:Int}{o:Int}{p:Int}{q:Int}{r:Int}{s:Int}{t:Int}{u:Int}{v:Int}{x:Int}{y:Int}{z:Int}{A:Int}{B:Int}{C:Int}{D:Int}{F:Int}{G:Int}{H:Int}{I:Int}{L:Int}{M:Int}:CB 138 #[(0,V a),(1,U b),(2,J c),(3,.agg #[U d,U e,U f,U g,U h,U i,U j,U k,U l,U m,U n,U o,U p,U q,U r,U s,U t,U u,U v,U x,U y,U z,U A,U B,U C,U D,U F,U G,U H,U I,U L,U M])] ((.agg #[V a,U b,J c,U d,U e,U f,U g,U h,U i,U j,U k,U l,U m,U n,U o,U p,U q,U r,U s,U t,U u,U v,U x,U y,U z,U A,U B,U C,U D,U F,U G,U H,U I,U L,U M])):=⟨fun _=>K0⟩
def Ka{a:Int}{b:Int}{c:Int}{d:Int}{e:Int}{f:Int}{g:Int}{h:Int}{i:Int}{j:Int}{k:Int}{l:Int}{m:Int}{n:Int}{o:Int}{p:Int}{q:Int}{r:Int}{s:Int}{t:Int}{u:Int}{v:Int}{x:Int}{y:Int}{z:Int}{A:Int}{B:Int}{C:Int}{D:Int}{F:Int}{G:Int}{H:Int}{I:Int}{L:Int}{M:Int}(w:World):(Instr.buildSlice 53 1 #[(0,.agg #[V a,U b,J c,U d,U e,U f,U g,U h,U i,U j,U k,U l,U m,U n,U o,U p,U q,U r,U s,U t,U u,U v,U x,U y,U z,U A,U B,U C,U D,U F,U G,U H,U I,U L,U M])]).run prog w=.ok (.slice (some ⟨w.heap.size,0,none⟩) 1 1) (w.alloc (.cells #[V a,U b,J c,U d,U e,U f,U g,U h,U i,U j,U k,U l,U m,U n,U o,U p,U q,U r,U s,U t,U u,U v,U x,U y,U z,U A,U B,U C,U D,U F,U G,U H,U I,U L,U M] 138)):=K0
def RN(x:Lw)(tk kd cd:Int)(A:am)(c:Nat)(b:ap)(w0:World)(hf:x.g.fit)(hc8:x.g.rs.length<=x.c)(hb:b.length<=8192)(hX:ce w0 x.A (fl Rc.cw x.g.rs))(hY:ce w0 A (aA b))(hK:ce w0 (some ⟨1,0,.none⟩) (dm ks)):
  CO 135 #[x.v,V tk,U kd,J cd,.slice A b.length c] w0 fun v Hn=>∃A2 c2,v=.tuple #[(Lw.mk (app x.g tk kd cd b).1 A2 c2).v,J (app x.g tk kd cd b).2]/\Hn=[HP.row 138 35 A2 ((app x.g tk kd cd b).1.rs).length c2 (fl Rc.cw ((app x.g tk kd cd b).1.rs))]:=by
 have hlen:=hf.len;have hcn:=hf.dF;refine Zq ?_;refine Zg @Dw ?_;refine Zc ?_ ?_
 ·refine Z4u ?_;intros;refine Z3I (k:=Zr (k:=Z4Q ?_));have e9:(app x.g tk kd cd b)=(Lg.z,pQ x.g):=ae K2;exact⟨none,0,by rw[e9]<;>rfl,by rw[e9]<;>rfl⟩
 refine Z4u ?_;intro _ _ hc;have hck:pQ x.g=0:=by assumption
 have hle:=uk hck;refine Z4t ?_;refine OW.call Mx rfl rfl rfl rfl rfl rfl _ (fun w hw=>Ur x.g.lk tk kd cd A c b w hf.lk hb (hw.rd hY) (hw.rd hK)) ?_;rintro _ _ ⟨rfl,rfl⟩;refine Zc ?_ ?_
 ·refine Z4u ?_;intros;refine Z3I (k:=Zr (k:=Z4Q ?_));have e9:(app x.g tk kd cd b)=(Lg.z,(link x.g.lk tk kd cd b).2):=(aa hck).trans (ae K2);exact⟨none,0,by rw[e9]<;>rfl,by rw[e9]<;>rfl⟩
 refine Z4u ?_;intro _ hc;have hl0:(link x.g.lk tk kd cd b).2=0:=by assumption
 refine Zc ?_ ?_
 ·refine Z4u ?_;intros;refine Z3I (k:=Zr (k:=Z4Q ?_));have e9:(app x.g tk kd cd b)=(Lg.z,9):=(aa hck).trans ((aa hl0).trans (aa K1));exact⟨none,0,by rw[e9]<;>rfl,by rw[e9]<;>rfl⟩
 refine Zx (k:=Z4y ?_);intros;refine Z4z ?_;iterate 4 refine Z4x ?_
 refine OW.put 48 (J ((x.g.rs.length-31:Nat):Int)) rfl (aq (Value.int .i64) K51) ?_;refine Z4t ?_;refine OW.pure rfl rfl rfl (PV.adC (lo:=x.g.rs.length-31) (hi:=x.g.rs.length) (mx:=x.g.rs.length) Ux Jx rfl rfl rfl rfl rfl K1 K1 K1) ?_;refine OW.put 54 (.slice (CZ x.A x.g.rs.length (x.g.rs.length-31) 35) (x.g.rs.drop (x.g.rs.length-31)).length (x.g.rs.drop (x.g.rs.length-31)).length) rfl (by rw[bN]) ?_
 refine Zx (k:=Z1b (k:=?_));iterate 2 refine Z4v ?_
 refine E.AW.first 2 rfl K0 K0 K0 rfl rfl rfl (PV.add rfl rfl rfl) ?_;refine E.AW.put 57 (O (x.g.dF+1)) rfl (aq (Value.int .u32) (ff K1)) ?_;iterate 6 refine Z4v ?_
 refine E.AW.first 9 rfl K0 K0 K0 rfl rfl rfl (PV.build (ps:=[(0,.tmp 60),(1,.tmp 61),(2,.tmp 62),(3,.tmp 63)]) rfl rfl (fun w=>(u0).h w)) ?_;refine Z4H ?_;refine OW.buildSlice (Et:=138) (sz:=35) (cs:=fl Rc.cw [(⟨tk,kd,cd,(link x.g.lk tk kd cd b).1⟩:Rc)]) (ps:=[(0,.tmp 64)]) rfl rfl rfl rfl rfl rfl K4 (fun w=>Ka w) (fun AS=>?_);refine Zj (k:=ZU (k:=?_));refine OW.L4 (j:=0) (u:=(⟨tk,kd,cd,(link x.g.lk tk kd cd b).1⟩:Rc)) (xs:=(x.g.rs.drop (x.g.rs.length-31))) Rc.fx Ux Jx rfl rfl rfl rfl rfl rfl rfl rfl rfl (fun w hw=>H8 Rc.fx (hw.rd hX) (bb _)) K25 (by rw[bN];unfold maxLen;omega) (fun A2 c2=>?_)
 refine Z4w ?_;refine E.AW.first 12 rfl K0 K0 K0 rfl rfl rfl (PV.build (ps:=[(0,.tmp 57),(1,.tmp 58),(2,.tmp 66)]) rfl rfl (fun w=>(zk).h w)) ?_;refine Zr (k:=Z4Q ?_);have e9:(app x.g tk kd cd b)=(⟨x.g.dF+1,(link x.g.lk tk kd cd b).1,(x.g.rs.drop (x.g.rs.length-31))++[(⟨tk,kd,cd,(link x.g.lk tk kd cd b).1⟩:Rc)]⟩,0):=(aa hck).trans ((aa hl0).trans (ae K1));exact⟨_,_,by rw[e9]<;>rfl,by rw[e9]⟩
def ND(x:Lw)(first:Int)(w0:World)(hf:x.g.fit)(hc8:x.g.rs.length<=x.c)(h1:0<=first/\first<4294967296)(hX:ce w0 x.A (fl Rc.cw x.g.rs)):
  CO 183 #[x.v,O first] w0 fun v Hn=>∃A2 c2,v=.tuple #[.slice A2 (since x.g first).1.length c2,J (since x.g first).2]/\Hn=[HP.row 138 35 A2 ((since x.g first).1).length c2 (fl Rc.cw ((since x.g first).1))]:=by
 have hlen:=hf.len;have hcn:=hf.dF;obtain⟨sk,hsk⟩:∃sk,sk=(min (max first (x.g.dF-x.g.rs.length)-(x.g.dF-x.g.rs.length)) x.g.rs.length).toNat:=⟨_,rfl⟩
 refine Zq ?_;refine Zg @Dw ?_;refine Zc ?_ ?_
 ·refine Z4u ?_;intros;refine Z3I (k:=?_);refine Zl ?_;have e9:(since x.g first)=([],pQ x.g):=ae K2
  exact⟨none,0,by rw[e9]<;>rfl,by rw[e9]<;>rfl⟩
 refine Z4u ?_;intros;have hck:pQ x.g=0:=by assumption
 have hle:=uk hck;refine Z4z ?_;iterate 6 refine Z4x ?_
 refine OW.put 19 (O (x.g.rs.length:Int)) rfl (aq (Value.int .u32) (ff K1)) ?_;refine Z1h (k:=Z4L ?_);refine OW.put 7 (O (x.g.dF-x.g.rs.length)) rfl (aq (Value.int .u32) (ff K1)) ?_;refine Zx (k:=Z4z ?_);iterate 4 refine Z4x ?_
 refine OW.put 23 (O (max first (x.g.dF-x.g.rs.length))) rfl (aq (Value.int .u32) K51) ?_
 refine Z1h (k:=?_);refine OW.put 25 (O (max first (x.g.dF-x.g.rs.length)-(x.g.dF-x.g.rs.length))) rfl (aq (Value.int .u32) (ff K1)) ?_
 iterate 4 refine Z4x ?_
 refine OW.put 29 (O (x.g.rs.length:Int)) rfl (aq (Value.int .u32) (ff K1)) ?_;refine Z4x ?_;refine OW.put 30 (O (sk:Int)) rfl (aq (Value.int .u32) K51) ?_;refine Z4t ?_;refine OW.pure rfl rfl rfl (PV.adK (lo:=sk) Ux Jx rfl rfl rfl K1) ?_;refine OW.put 34 (.slice (CZ x.A x.c sk 35) (x.g.rs.drop sk).length (x.c-sk)) rfl (by rw[bN]) ?_
 refine OW.call Mx rfl rfl rfl rfl rfl rfl _ (fun w hw=>Hx _ _ (x.g.rs.drop sk) w K25 (H8 Rc.fx (hw.rd hX) hc8)) ?_;rintro _ _ ⟨AK,cK,rfl,rfl⟩;refine Zl ?_;have e9:(since x.g first)=(x.g.rs.drop sk,0):=(aa hck).trans (by rw[hsk])
 exact⟨_,_,by rw[e9],by rw[e9]⟩
def adB:Tryz.prog.cellsOf 33=1:=K0
def Yc:(220:TypeId)<Tryz.prog.types.size:=bf K0
def Gq:(match Tryz.prog.underlying 220 with|some (.array _ _)|some (.struct _)=>true|_=>false)=true:=by rw[underlying220]
def aaj:WideMaps.KeyLaw prog 220:=deep_law_laid laidOut (m:=3) K1 Yc K0 Gq
def Xz:z6 prog 220:=z6.mk' (m:=3) aaj K0 K1 K0 Gq
def ade:Tryz.prog.keyType 220=true:=K0
def aaA:Tryz.prog.cellsOf 220=3:=K0
def Ws(a0 a1 a2:Int)(h0:(Lit.int .i64 a0).wf=true)(h1:(Lit.int .u8 a1).wf=true)(h2:(Lit.int .i64 a2).wf=true):∃l,keyOf prog 220 (.agg #[J a0,U a1,J a2])=some l:=by
 obtain⟨n,hn⟩:=S4;unfold keyOf;rw[underlying220,hn];simp[Value.formed,underlying220,ade,aaA,Value.cells,Program.keyLits,Uj,wv,underlying3,underlying26,zi,underlying5,h0,h1,h2,kg]
def Wf:(138:TypeId)<Tryz.prog.types.size:=bf K0
def G7:(match Tryz.prog.underlying 138 with|some (.array _ _)|some (.struct _)=>true|_=>false)=true:=by rw[underlying138]
def Xy:WideMaps.KeyLaw prog 138:=deep_law_laid laidOut (m:=3) K1 Wf K0 G7
def V3:z6 prog 138:=z6.mk' (m:=3) Xy K0 K1 K0 G7
def aaS:Tryz.prog.keyType 138=true:=K0
def acJ:Tryz.prog.cellsOf 138=35:=K0
def V1(a0 a1 a2 a3 a4 a5 a6 a7 a8 a9 a10 a11 a12 a13 a14 a15 a16 a17 a18 a19 a20 a21 a22 a23 a24 a25 a26 a27 a28 a29 a30 a31 a32 a33 a34:Int)(h0:(Lit.int .u64 a0).wf=true)(h1:(Lit.int .u8 a1).wf=true)(h2:(Lit.int .i64 a2).wf=true)(h3:(Lit.int .u8 a3).wf=true)(h4:(Lit.int .u8 a4).wf=true)(h5:(Lit.int .u8 a5).wf=true)(h6:(Lit.int .u8 a6).wf=true)(h7:(Lit.int .u8 a7).wf=true)(h8:(Lit.int .u8 a8).wf=true)(h9:(Lit.int .u8 a9).wf=true)(h10:(Lit.int .u8 a10).wf=true)(h11:(Lit.int .u8 a11).wf=true)(h12:(Lit.int .u8 a12).wf=true)(h13:(Lit.int .u8 a13).wf=true)(h14:(Lit.int .u8 a14).wf=true)(h15:(Lit.int .u8 a15).wf=true)(h16:(Lit.int .u8 a16).wf=true)(h17:(Lit.int .u8 a17).wf=true)(h18:(Lit.int .u8 a18).wf=true)(h19:(Lit.int .u8 a19).wf=true)(h20:(Lit.int .u8 a20).wf=true)(h21:(Lit.int .u8 a21).wf=true)(h22:(Lit.int .u8 a22).wf=true)(h23:(Lit.int .u8 a23).wf=true)(h24:(Lit.int .u8 a24).wf=true)(h25:(Lit.int .u8 a25).wf=true)(h26:(Lit.int .u8 a26).wf=true)(h27:(Lit.int .u8 a27).wf=true)(h28:(Lit.int .u8 a28).wf=true)(h29:(Lit.int .u8 a29).wf=true)(h30:(Lit.int .u8 a30).wf=true)(h31:(Lit.int .u8 a31).wf=true)(h32:(Lit.int .u8 a32).wf=true)(h33:(Lit.int .u8 a33).wf=true)(h34:(Lit.int .u8 a34).wf=true):∃l,keyOf prog 138 (.agg #[V a0,U a1,J a2,U a3,U a4,U a5,U a6,U a7,U a8,U a9,U a10,U a11,U a12,U a13,U a14,U a15,U a16,U a17,U a18,U a19,U a20,U a21,U a22,U a23,U a24,U a25,U a26,U a27,U a28,U a29,U a30,U a31,U a32,U a33,U a34])=some l:=by
 obtain⟨n,hn⟩:=S4;unfold keyOf;rw[underlying138,hn];simp[Value.formed,underlying138,aaS,acJ,Value.cells,Program.keyLits,Uj,wv,underlying3,underlying26,zi,adB,Us,underlying5,underlying33,underlying54,show List.range 32=[0,1,2,3,4,5,6,7,8,9,10,11,12,13,14,15,16,17,18,19,20,21,22,23,24,25,26,27,28,29,30,31] from rfl,h0,h1,h2,h3,h4,h5,h6,h7,h8,h9,h10,h11,h12,h13,h14,h15,h16,h17,h18,h19,h20,h21,h22,h23,h24,h25,h26,h27,h28,h29,h30,h31,h32,h33,h34,kg]
def ab8{s:Sg}(h:s.fit):∃q,keyOf prog 220 (.agg s.cs.toArray)=some q:=Ws s.pl s.st s.od (Wi.I9 h.pl) (Rr h.st) (Wi.I9 h.od)
def aci{r:Rc}(h:r.fit):∃q,keyOf prog 138 (.agg r.cw.toArray)=some q:=V1 r.tk r.kd r.cd ((r.lk.getD 0 0).toNat:Int) ((r.lk.getD 1 0).toNat:Int) ((r.lk.getD 2 0).toNat:Int) ((r.lk.getD 3 0).toNat:Int) ((r.lk.getD 4 0).toNat:Int) ((r.lk.getD 5 0).toNat:Int) ((r.lk.getD 6 0).toNat:Int) ((r.lk.getD 7 0).toNat:Int) ((r.lk.getD 8 0).toNat:Int) ((r.lk.getD 9 0).toNat:Int) ((r.lk.getD 10 0).toNat:Int) ((r.lk.getD 11 0).toNat:Int) ((r.lk.getD 12 0).toNat:Int) ((r.lk.getD 13 0).toNat:Int) ((r.lk.getD 14 0).toNat:Int) ((r.lk.getD 15 0).toNat:Int) ((r.lk.getD 16 0).toNat:Int) ((r.lk.getD 17 0).toNat:Int) ((r.lk.getD 18 0).toNat:Int) ((r.lk.getD 19 0).toNat:Int) ((r.lk.getD 20 0).toNat:Int) ((r.lk.getD 21 0).toNat:Int) ((r.lk.getD 22 0).toNat:Int) ((r.lk.getD 23 0).toNat:Int) ((r.lk.getD 24 0).toNat:Int) ((r.lk.getD 25 0).toNat:Int) ((r.lk.getD 26 0).toNat:Int) ((r.lk.getD 27 0).toNat:Int) ((r.lk.getD 28 0).toNat:Int) ((r.lk.getD 29 0).toNat:Int) ((r.lk.getD 30 0).toNat:Int) ((r.lk.getD 31 0).toNat:Int) (Y1 h.tk) (Rr h.kd) (Wi.I9 h.cd) (bY _) (bY _) (bY _) (bY _) (bY _) (bY _) (bY _) (bY _) (bY _) (bY _) (bY _) (bY _) (bY _) (bY _) (bY _) (bY _) (bY _) (bY _) (bY _) (bY _) (bY _) (bY _) (bY _) (bY _) (bY _) (bY _) (bY _) (bY _) (bY _) (bY _) (bY _) (bY _)
def YV(A:am)(c:Nat)(l:List Sg)(A2:am)(c2:Nat)(m:List Sg)(w0:World)(hl:l.length<=100000)(hfl:∀s∈l,s.fit)(hfm:∀s∈m,s.fit)(hX:ce w0 A (fl Sg.cs l))(hY:ce w0 A2 (fl Sg.cs m)):
  CV 96 #[.slice A l.length c,.slice A2 m.length c2] w0 (.bool (decide (l=m))):=by
 refine Zq ?_;refine Zc ?_ ?_
 ·refine Zk ?_;intros;exact⟨by rw[xI K1],rfl⟩
 refine Z4t ?_;intro hc;refine CW.av [0,1,12] 0 rfl rfl (fun mm mods Hm=>∃k:Nat,mm=l.length-k/\mods=[(13,J k)]/\Hm=[]/\(k<=l.length/\∀j,j<k->l.getD j Sg.z=m.getD j Sg.z)) (l.length) ?_ ?_
 ·exact⟨[(13,_)],Kc,0,rfl,rfl,rfl,K1,fun j hj=>by omega⟩
 rintro _ _ _ ⟨k,rfl,rfl,rfl,hk,hI⟩;refine Zc ?_ ?_
 ·refine Zx (k:=Z4y ?_);intro hc;refine Z0 (k:=Z4t ?_);refine QW.pure rfl rfl rfl (PV.yD (p:=l.getD k Sg.z=m.getD k Sg.z) Xz rfl rfl rfl (ab8 (hfl _ (MB K1))).choose_spec (ab8 (hfm _ (MB K1))).choose_spec Sg.inj) ?_;refine Zc ?_ ?_
  ·refine Zk ?_;intros;exact⟨by rw[Gr (k:=k) (d:=Sg.z) K8],rfl⟩
  refine Z4t ?_;intros;refine Z3O (k:=?_);omega
 refine Zk ?_;intros;exact⟨by rw[HR (d:=Sg.z) K1 (fun j hj=>hI j K1)],rfl⟩
def Ul(A:am)(c:Nat)(l:List Rc)(A2:am)(c2:Nat)(m:List Rc)(w0:World)(hl:l.length<=100000)(hfl:∀s∈l,s.fit)(hfm:∀s∈m,s.fit)(hX:ce w0 A (fl Rc.cw l))(hY:ce w0 A2 (fl Rc.cw m)):
  CV 97 #[.slice A l.length c,.slice A2 m.length c2] w0 (.bool (decide (l=m))):=by
 refine Zq ?_;refine Zc ?_ ?_
 ·refine Zk ?_;intros;exact⟨by rw[xI K1],rfl⟩
 refine Z4t ?_;intro hc;refine CW.av [0,1,12] 0 rfl rfl (fun mm mods Hm=>∃k:Nat,mm=l.length-k/\mods=[(13,J k)]/\Hm=[]/\(k<=l.length/\∀j,j<k->l.getD j Rc.z=m.getD j Rc.z)) (l.length) ?_ ?_
 ·exact⟨[(13,_)],Kc,0,rfl,rfl,rfl,K1,fun j hj=>by omega⟩
 rintro _ _ _ ⟨k,rfl,rfl,rfl,hk,hI⟩;refine Zc ?_ ?_
 ·refine Zx (k:=Z4y ?_);intro hc;refine Z0 (k:=Z4t ?_);refine QW.pure rfl rfl rfl (PV.yD (p:=l.getD k Rc.z=m.getD k Rc.z) V3 rfl rfl rfl (aci (hfl _ (mQ K1))).choose_spec (aci (hfm _ (mQ K1))).choose_spec (Rc.inj (hfl _ (mQ K1)).lk (hfm _ (mQ K1)).lk)) ?_;refine Zc ?_ ?_
  ·refine Zk ?_;intros;exact⟨by rw[Gr (k:=k) (d:=Rc.z) K8],rfl⟩
  refine Z4t ?_;intros;refine Z3O (k:=?_);omega
 refine Zk ?_;intros;exact⟨by rw[HR (d:=Rc.z) K1 (fun j hj=>hI j K1)],rfl⟩
instance Ei{a:Int}{b:Int}{c:Int}{d:Int}{e:Int}{f:Int}{g:Int}{h:Int}{i:Int}{j:Int}{k:Int}{l:Int}{m:Int}{n:Int}{o:Int}{p:Int}{q:Int}{r:Int}{s:Int}{t:Int}{u:Int}{v:Int}{x:Int}{y:Int}{z:Int}{A:Int}{B:Int}{C:Int}{D:Int}{F:Int}{G:Int}{H:Int}{I:Int}{L:Int}{M:Int}{N:Int}{P:Int}:CB 263 #[(0,U a),(1,.agg #[U b,U c,V d,O e,U f,U g,U h,U i,U j,U k,U l,U m,U n,U o,U p,U q,U r,U s,U t,U u,U v,U x,U y,U z,U A,U B,U C,U D,U F,U G,U H,U I,U L,U M,U N,U P])] ((.agg #[U a,U b,U c,V d,O e,U f,U g,U h,U i,U j,U k,U l,U m,U n,U o,U p,U q,U r,U s,U t,U u,U v,U x,U y,U z,U A,U B,U C,U D,U F,U G,U H,U I,U L,U M,U N,U P,U 0,U 0,O 0])):=⟨fun _=>K0⟩
def DK(q:Gw.Rq)(w0:World):
  CV 165 #[.agg q.cw.toArray] w0 ((Fz q).v):=by
 refine Zq ?_;refine Zc ?_ ?_
 ·refine Zk ?_;intros;exact⟨by rw[NO (ads K1)]<;>rfl,rfl⟩
 refine Zc ?_ ?_
 ·refine Zk ?_;intros;exact⟨by rw[Ip (acD K1)]<;>rfl,rfl⟩
 refine Zc ?_ ?_
 ·refine Zk ?_;intros;exact⟨by rw[Ip (acD K1)]<;>rfl,rfl⟩
 refine Zc ?_ ?_
 ·refine Zk ?_;intros;exact⟨by rw[Gu (abz K1)]<;>rfl,rfl⟩
 refine Zc ?_ ?_
 ·refine Zk ?_;intros;exact⟨by rw[Gu (abz K1)]<;>rfl,rfl⟩
 refine Zk ?_;intros;exact⟨by rw[NU (adT K1)]<;>rfl,rfl⟩
def NH(kd:Int)(t:Gw.Tk)(b:Bd)(w0:World):
  CV 164 #[U kd,.agg t.cw.toArray,b.v] w0 (.agg (X5 kd t b).cw.toArray):=by
 cases b
 all_goals
  refine Zq ?_;refine Zx (k:=Z4y ?_);intros;refine Z4z ?_;iterate 2 refine Z4x ?_
  refine OW.pure rfl rfl rfl (PV.build (ps:=[(0,.tmp 11),(1,.tmp 12)]) rfl rfl (fun w=>(Ei).h w)) ?_;refine Zd ?_ ?_
  ·try exact⟨⟩
   all_goals
    refine Zx (k:=Z4y ?_);intros;refine Z4R ?_;refine Zk ?_;exact⟨rfl,rfl⟩
  try exact⟨⟩
  all_goals
   refine Zd ?_ ?_
   ·try exact⟨⟩
    all_goals
     refine Zk ?_;intros;exact⟨rfl,rfl⟩
   try exact⟨⟩
   all_goals
    refine Zd ?_ ?_
    ·try exact⟨⟩
     all_goals
      refine Zk ?_;intros;exact⟨rfl,rfl⟩
    try exact⟨⟩
    all_goals
     refine Zk ?_;intros;exact⟨rfl,rfl⟩
def sb(v:Value):Mv prog (.iface 155 v) "dunnage/wire.valid" [] 345 [v]:=fun w=>by kernel_rfl
def Dn(v:Value):Mv prog (.iface 362 v) "dunnage/wire.valid" [] 348 [v]:=fun w=>by kernel_rfl
def Ch(v:Value):Mv prog (.iface 363 v) "dunnage/wire.valid" [] 351 [v]:=fun w=>by kernel_rfl
def Du(v:Value):Mv prog (.iface 364 v) "dunnage/wire.valid" [] 354 [v]:=fun w=>by kernel_rfl
def adJ:∃n,Tryz.prog.types.size=n+4:=⟨Tryz.prog.types.size-4,by have h:299<Tryz.prog.types.size:=yj;omega⟩
def Wr:(263:TypeId)<Tryz.prog.types.size:=bf K0
def Gf:(match Tryz.prog.underlying 263 with|some (.array _ _)|some (.struct _)=>true|_=>false)=true:=by rw[underlying263]
def Wj:WideMaps.KeyLaw prog 263:=deep_law_laid laidOut (m:=4) K1 Wr K0 Gf
def X6:z6 prog 263:=z6.mk' (m:=4) Wj K0 K1 K0 Gf
def abv:Tryz.prog.keyType 263=true:=K0
def abH:Tryz.prog.cellsOf 263=40:=K0
def VP(a0 a1 a2 a3 a4 a5 a6 a7 a8 a9 a10 a11 a12 a13 a14 a15 a16 a17 a18 a19 a20 a21 a22 a23 a24 a25 a26 a27 a28 a29 a30 a31 a32 a33 a34 a35 a36 a37 a38 a39:Int)(h0:(Lit.int .u8 a0).wf=true)(h1:(Lit.int .u8 a1).wf=true)(h2:(Lit.int .u8 a2).wf=true)(h3:(Lit.int .u64 a3).wf=true)(h4:(Lit.int .u32 a4).wf=true)(h5:(Lit.int .u8 a5).wf=true)(h6:(Lit.int .u8 a6).wf=true)(h7:(Lit.int .u8 a7).wf=true)(h8:(Lit.int .u8 a8).wf=true)(h9:(Lit.int .u8 a9).wf=true)(h10:(Lit.int .u8 a10).wf=true)(h11:(Lit.int .u8 a11).wf=true)(h12:(Lit.int .u8 a12).wf=true)(h13:(Lit.int .u8 a13).wf=true)(h14:(Lit.int .u8 a14).wf=true)(h15:(Lit.int .u8 a15).wf=true)(h16:(Lit.int .u8 a16).wf=true)(h17:(Lit.int .u8 a17).wf=true)(h18:(Lit.int .u8 a18).wf=true)(h19:(Lit.int .u8 a19).wf=true)(h20:(Lit.int .u8 a20).wf=true)(h21:(Lit.int .u8 a21).wf=true)(h22:(Lit.int .u8 a22).wf=true)(h23:(Lit.int .u8 a23).wf=true)(h24:(Lit.int .u8 a24).wf=true)(h25:(Lit.int .u8 a25).wf=true)(h26:(Lit.int .u8 a26).wf=true)(h27:(Lit.int .u8 a27).wf=true)(h28:(Lit.int .u8 a28).wf=true)(h29:(Lit.int .u8 a29).wf=true)(h30:(Lit.int .u8 a30).wf=true)(h31:(Lit.int .u8 a31).wf=true)(h32:(Lit.int .u8 a32).wf=true)(h33:(Lit.int .u8 a33).wf=true)(h34:(Lit.int .u8 a34).wf=true)(h35:(Lit.int .u8 a35).wf=true)(h36:(Lit.int .u8 a36).wf=true)(h37:(Lit.int .u8 a37).wf=true)(h38:(Lit.int .u8 a38).wf=true)(h39:(Lit.int .u32 a39).wf=true):∃l,keyOf prog 263 (.agg #[U a0,U a1,U a2,V a3,O a4,U a5,U a6,U a7,U a8,U a9,U a10,U a11,U a12,U a13,U a14,U a15,U a16,U a17,U a18,U a19,U a20,U a21,U a22,U a23,U a24,U a25,U a26,U a27,U a28,U a29,U a30,U a31,U a32,U a33,U a34,U a35,U a36,U a37,U a38,O a39])=some l:=by
 obtain⟨n,hn⟩:=adJ;unfold keyOf;rw[underlying263,hn];simp(decide:=true) [Value.formed,Ux,abv,abH,Value.cells,Program.keyLits,Uj,wv,Ux,Ux,zi,wv,abI,Us,abZ,Ux,Ux,Ux,Ux,show List.range 32=[0,1,2,3,4,5,6,7,8,9,10,11,12,13,14,15,16,17,18,19,20,21,22,23,24,25,26,27,28,29,30,31] from rfl,h0,h1,h2,h3,h4,h5,h6,h7,h8,h9,h10,h11,h12,h13,h14,h15,h16,h17,h18,h19,h20,h21,h22,h23,h24,h25,h26,h27,h28,h29,h30,h31,h32,h33,h34,h35,h36,h37,h38,h39,kg]
def ab7{q:Gw.Rq}(h:q.fit):∃l,keyOf prog 263 (.agg q.cw.toArray)=some l:=VP q.kd q.tok.tn q.tok.role q.tok.exp q.tok.dM ((q.tok.tag.getD 0 0).toNat:Int) ((q.tok.tag.getD 1 0).toNat:Int) ((q.tok.tag.getD 2 0).toNat:Int) ((q.tok.tag.getD 3 0).toNat:Int) ((q.tok.tag.getD 4 0).toNat:Int) ((q.tok.tag.getD 5 0).toNat:Int) ((q.tok.tag.getD 6 0).toNat:Int) ((q.tok.tag.getD 7 0).toNat:Int) ((q.tok.tag.getD 8 0).toNat:Int) ((q.tok.tag.getD 9 0).toNat:Int) ((q.tok.tag.getD 10 0).toNat:Int) ((q.tok.tag.getD 11 0).toNat:Int) ((q.tok.tag.getD 12 0).toNat:Int) ((q.tok.tag.getD 13 0).toNat:Int) ((q.tok.tag.getD 14 0).toNat:Int) ((q.tok.tag.getD 15 0).toNat:Int) ((q.tok.tag.getD 16 0).toNat:Int) ((q.tok.tag.getD 17 0).toNat:Int) ((q.tok.tag.getD 18 0).toNat:Int) ((q.tok.tag.getD 19 0).toNat:Int) ((q.tok.tag.getD 20 0).toNat:Int) ((q.tok.tag.getD 21 0).toNat:Int) ((q.tok.tag.getD 22 0).toNat:Int) ((q.tok.tag.getD 23 0).toNat:Int) ((q.tok.tag.getD 24 0).toNat:Int) ((q.tok.tag.getD 25 0).toNat:Int) ((q.tok.tag.getD 26 0).toNat:Int) ((q.tok.tag.getD 27 0).toNat:Int) ((q.tok.tag.getD 28 0).toNat:Int) ((q.tok.tag.getD 29 0).toNat:Int) ((q.tok.tag.getD 30 0).toNat:Int) ((q.tok.tag.getD 31 0).toNat:Int) q.pick q.drop q.num (Rr h.kd) (Rr h.tok.tn) (Rr h.tok.role) (Y1 h.tok.exp) (Wx h.tok.dM) (bY _) (bY _) (bY _) (bY _) (bY _) (bY _) (bY _) (bY _) (bY _) (bY _) (bY _) (bY _) (bY _) (bY _) (bY _) (bY _) (bY _) (bY _) (bY _) (bY _) (bY _) (bY _) (bY _) (bY _) (bY _) (bY _) (bY _) (bY _) (bY _) (bY _) (bY _) (bY _) (Rr h.pick) (Rr h.drop) (Wx h.num)
def Xj(q:Gw.Rq)(w0:World)(F:Nat->Prop)(H:List HP):∃f args,Mv prog (Fz q).v "dunnage/wire.valid" [] f args/\∀w,HA w0 F H w->Calls prog f args.toArray w (bK w (Old w) fun v Hn=>v=.bool (zw q)/\Hn=[]):=by
 unfold zw;rcases xh q.kd with h|h|h|h
 ·rw[NU h,h];exact⟨_,_,sb _,fun w _=>sx w⟩
 ·rw[NO h,h];exact⟨_,_,Dn _,fun w _=>Pu _ _ w⟩
 ·rw[Ip h,h];exact⟨_,_,Ch _,fun w _=>JP _ w⟩
 rw[Gu h,h];exact⟨_,_,Du _,fun w _=>Ra _ w⟩
def V9(q:Gw.Rq)(w0:World)(hf:q.fit):
  CV 166 #[.agg q.cw.toArray] w0 (J (Ss q)):=by
 have hqf:=I7 hf;refine Zq ?_;refine Ze (k:=Z3 (k:=Z1i (k:=fun B1=>Zf (k:=Zi (k:=Zb (k:=Ze (k:=Z3 (k:=Z3M (k:=?_)))))))));refine OW.call Mx rfl rfl rfl rfl rfl rfl _ (fun w hw=>DK q w) ?_;rintro _ _ ⟨rfl,rfl⟩;refine Zf (k:=Zi (k:=Zb (k:=Ze (k:=Ze (k:=Z4R ?_)))))
 all_goals
  refine Z2t (k:=?_)
 all_goals
  refine Z2u (k:=?_)
 all_goals
  refine E.AW.first 2 rfl K0 K0 K0 rfl rfl rfl (PV.lss rfl rfl rfl) ?_
 all_goals
  refine E.AW.first 3 rfl K0 K0 K0 rfl rfl rfl (PV.move rfl rfl) ?_
 all_goals
  refine E.AW.split 9 rfl (fun hc=>?_) (fun hc=>?_)<;>(try simp only[bz,reduceCtorEq] at hc)<;>try exact Kf
 all_goals
  first|(refine E.AW.xE 4 rfl K0 K0 K0 rfl rfl rfl ?_)|(refine E.AW.first 4 rfl K0 K0 K0 rfl rfl rfl (PV.fieldAddr Ax rfl rfl) ?_)
 all_goals
  first|(refine E.AW.xE 5 rfl K0 K0 K0 rfl rfl rfl ?_)|(refine E.AW.first 5 rfl K0 K0 K0 rfl rfl rfl (PV.load (i:=0) Nx rfl rfl rfl rfl) ?_)
 all_goals
  first|(refine E.AW.xE 6 rfl K0 K0 K0 rfl rfl rfl ?_)|(refine E.AW.first 6 rfl K0 K0 K0 rfl rfl rfl (PV.gtr rfl rfl rfl) ?_)
 all_goals
  first|(refine E.AW.first 7 rfl K0 K0 K0 rfl rfl rfl (PV.yi rfl rfl rfl) ?_)|(refine E.AW.first 7 rfl K0 K0 K0 rfl rfl rfl (PV.yo rfl rfl rfl) ?_)
 all_goals
  refine E.AW.first 8 rfl K0 K0 K0 rfl rfl rfl (PV.move rfl rfl) ?_
 all_goals
  first|(refine E.AW.put 14 (.bool true) (v:=.bool true) rfl rfl ?_)|(refine E.AW.split 14 rfl (fun hc=>?_) (fun hc=>?_)<;>(try simp only[bz,reduceCtorEq] at hc)<;>try exact Kf)
 all_goals
  first|(refine E.AW.xE 9 rfl K0 K0 K0 rfl rfl rfl ?_)|(refine E.AW.first 9 rfl K0 K0 K0 rfl rfl rfl (PV.move rfl rfl) ?_)
 all_goals
  refine Z4H ?_
 all_goals
  first|(refine OW.off rfl rfl rfl ?_)|((refine OW.vC rfl rfl rfl rfl rfl rfl _ (Xj q _ _ _) ?_;rintro _ _ ⟨rfl,rfl⟩))
 all_goals
  refine Z1G (k:=?_)
 all_goals
  first|(refine E.AW.xE 11 rfl K0 K0 K0 rfl rfl rfl ?_)|(refine E.AW.first 11 rfl K0 K0 K0 rfl rfl rfl (PV.not rfl rfl) ?_)
 all_goals
  first|(refine E.AW.first 12 rfl K0 K0 K0 rfl rfl rfl (PV.yi rfl rfl rfl) ?_)|(refine E.AW.first 12 rfl K0 K0 K0 rfl rfl rfl (PV.yo rfl rfl rfl) ?_)
 all_goals
  refine E.AW.first 13 rfl K0 K0 K0 rfl rfl rfl (PV.move rfl rfl) ?_
 all_goals
  first|(refine E.AW.put 19 (.bool true) (v:=.bool true) rfl rfl ?_)|(refine E.AW.split 19 rfl (fun hc=>?_) (fun hc=>?_)<;>(try simp only[bz,reduceCtorEq] at hc)<;>try exact Kf)
 all_goals
  first|(refine E.AW.xE 14 rfl K0 K0 K0 rfl rfl rfl ?_)|(refine E.AW.first 14 rfl K0 K0 K0 rfl rfl rfl (PV.fieldAddr Ax rfl rfl) ?_)
 all_goals
  first|(refine E.AW.xE 15 rfl K0 K0 K0 rfl rfl rfl ?_)|(refine E.AW.first 15 rfl K0 K0 K0 rfl rfl rfl (PV.load (i:=0) Nx rfl rfl rfl rfl) ?_)
 all_goals
  first|(refine E.AW.xE 16 rfl K0 K0 K0 rfl rfl rfl ?_)|(refine E.AW.first 16 rfl K0 K0 K0 rfl rfl rfl (PV.fieldAddr Ax rfl rfl) ?_)
 all_goals
  first|(refine E.AW.xE 17 rfl K0 K0 K0 rfl rfl rfl ?_)|(refine E.AW.first 17 rfl K0 K0 K0 rfl rfl rfl (PV.jD (i:=0) Ix rfl rfl rfl rfl) ?_)
 all_goals
  refine Z3P (k:=?_)
 all_goals
  first|(refine E.AW.xE 20 rfl K0 K0 K0 rfl rfl rfl ?_)|(refine E.AW.first 20 rfl K0 K0 K0 rfl rfl rfl (PV.jD (i:=0) Ix rfl rfl rfl rfl) ?_)
 all_goals
  refine E.AW.one 19 K0 rfl ?_
 all_goals
  first|(refine OW.off rfl rfl rfl ?_)|((refine OW.call Mx rfl rfl rfl rfl rfl rfl _ (fun w hw=>NH q.kd q.tok (Fz q) w) ?_;rintro _ _ ⟨rfl,rfl⟩))
 all_goals
  refine Z1G (k:=?_)
 all_goals
  first|refine E.AW.put 25 (v:=.agg (X5 q.kd q.tok (Fz q)).cw.toArray) (.agg (qu q).cw.toArray) rfl (by rw[WZ]) ?_|skip
 all_goals
  first|(refine E.AW.xE 21 rfl K0 K0 K0 rfl rfl rfl ?_)|(refine E.AW.fT 21 rfl K0 K0 K0 rfl rfl rfl (PV.yD (p:=qu q=q) X6 rfl rfl rfl (ab7 hqf).choose_spec (ab7 hf).choose_spec (Gw.Rq.inj hqf.tok.tag hf.tok.tag)) ?_)
 all_goals
  first|(refine E.AW.first 22 rfl K0 K0 K0 rfl rfl rfl (PV.yi rfl rfl rfl) ?_)|(refine E.AW.first 22 rfl K0 K0 K0 rfl rfl rfl (PV.yo rfl rfl rfl) ?_)
 all_goals
  refine Z4E ?_
 all_goals
  skip;refine Z4B ?_;refine CW.cond rfl (fun hc=>?_) (fun hc=>?_)
  ·simp only[bz,reduceCtorEq] at hc
   all_goals
    refine Ze (k:=Z3 (k:=Zf (k:=Zi (k:=Zb (k:=Zm (k:=Zv (k:=Z4P ?_)))))));exact⟨aq (Value.int .i64) (Mg (by first|(simp_all;done)|omega)).symm,rfl⟩
  first|((cases hc;done))|(simp only[bz,reduceCtorEq] at hc)
  all_goals
   refine ZB (k:=Zb (k:=Ze (k:=Z3 (k:=Zf (k:=Zi (k:=Zb (k:=Zm (k:=Z4P ?_))))))));exact⟨aq (Value.int .i64) (Uz K8).symm,rfl⟩
def Nh(PB:Nat)(x:Bool)(S:Nat->Prop)(w0:World)(hS:(HP.aw PB 4 [.bool x]).bA S w0)(hb:∀k,S k->k<w0.heap.size):
  CallsDIn Fence.wide 0 prog 57 #[Y PB 0] (.panicking E.early) w0 fun e2 u2 w2=>e2=.returned (.tuple #[])/\u2=.panicking [{v:=.iface 146 (.agg #[]),recovered:=true}]/\∃Hn,(Hn=[HP.aw PB 4 [.bool false]])/\HA w0 (Fm w0 S) Hn w2:=by
 refine gz (vs:=[Y PB 0]) (H:=[HP.aw PB 4 [.bool x]]) (R:=fun Hn=>Hn=[HP.aw PB 4 [.bool false]]) func57 ntmps57 rfl results57 rfl (HA.au hS hb) fun c0 cs hu=>?_;show E.SW _ _ _ _ _ _ _ [0,1] _ _;refine E.SW.rec rfl rfl rfl rfl rfl ?_;rw[hu];refine E.SW.pure rfl rfl rfl rfl (PV.Lo (b:=true) (fun _=>⟨by kernel_rfl,by kernel_rfl⟩) rfl rfl rfl) ?_
 refine E.SW.done ?_;refine CW.cond rfl (fun hc=>?_) (fun hc=>?_)
 ·simp only[E.b0,E.b1,E.b2,E.b3,E.b4,E.b5,E.b6,E.b7,E.b8,E.b9,E.GZ,E.Gz,E.Hu,E.HY,E.Gb,E.Ic,E.Iq,E.HE,E.HN,E.HC,E.G4,reduceCtorEq] at hc
  all_goals(
   refine CW.region ?_;refine OW.store (i:=0) Js rfl rfl rfl rfl rfl rfl rfl rfl rfl ?_;refine OW.nil ?_
   exact⟨[0],_,rfl,by rfl⟩)
 (cases hc;done)
def MX(PB:Nat)(w0:World):
  CallsDIn Fence.wide 0 prog 57 #[Y PB 0] (.returning) w0 fun e2 u2 w2=>e2=.returned (.tuple #[])/\u2=.returning/\∃Hn,(Hn=[])/\HA w0 (Old w0) Hn w2:=by
 refine gz (vs:=[Y PB 0]) (H:=[]) (R:=fun Hn=>Hn=[]) func57 ntmps57 rfl results57 rfl (HA.start w0) fun c0 cs hu=>?_;show E.SW _ _ _ _ _ _ _ [0,1] _ _;refine E.SW.rec rfl rfl rfl rfl rfl ?_;rw[hu];refine E.SW.pure rfl rfl rfl rfl (PV.Lo (b:=false) (fun _=>⟨by kernel_rfl,by kernel_rfl⟩) rfl rfl rfl) ?_
 refine E.SW.done ?_;refine CW.cond rfl (fun hc=>?_) (fun hc=>?_)
 ·(cases hc;done)
 simp only[E.b0,E.b1,E.b2,E.b3,E.b4,E.b5,E.b6,E.b7,E.b8,E.b9,E.GZ,E.Gz,E.Hu,E.HY,E.Gb,E.Ic,E.Iq,E.HE,E.HN,E.HC,E.G4,reduceCtorEq] at hc
 all_goals(
  refine CW.skip ?_
  exact⟨[],_,rfl,by rfl⟩)
instance(a:am)(b c:Nat):CB 142 #[(0,.slice a b c)] ((.agg #[.slice a b c,J 0])):=⟨fun _=>K0⟩
def CT(A:am)(d:Nat)(b:ap)(fb:Nat)(aE:Array Value)(p:HP)(S:Nat->Prop)(R:Nat->HP->Prop)(X:Prop)(w0:World)(hn:E.Nm prog fb)(hS:p.bA S w0)(hb:∀k,S k->k<w0.heap.size)(hc8:b.length<=d)(hl:b.length<=100000)(h2:2<=b.length)(hX:Rd w0 (Fm w0 S) A (aA b))
  (hq:∀B w S2,HA w0 (Fm w0 S) [HP.dj [HP.aw B 142 [.slice A b.length d,J 2],p]] w->(HP.dj [HP.aw B 142 [.slice A b.length d,J 2],p]).bA S2 w->(∀k,S2 k->k<w.heap.size/\¬Fm w0 S k)->Calls prog fb (#[Y B 0]++aE) w (db w (Fm w S2) (fun v Hn=>∃q p2,R q p2/\Hn=[HP.aw B 142 [.slice A b.length d,J (q:Int)],p2]) fun c Hp=>(c=E.early/\X)/\Hp=[])):
  CF 31 #[.slice A b.length d,.func (.func fb) #[] aE] w0 S fun v Hn=>(∃q p2,R q p2/\v=.bool (decide (aO (b.take 2)=(b.length:Int))&&decide ((q:Int)=b.length))/\Hn=[p2])\/(X/\v=.bool false/\Hn=[]):=by
 refine xw (vs:=[.slice A b.length d,.func (.func fb) #[] aE]) (H:=[p]) func31 ntmps31 rfl rfl (HA.au hS hb) ?_;refine Z4t ?_;intro B1;refine Z1Z (k:=Z4t ?_);intro B2;refine OW.eR (aE:= #[]) Mx rfl rfl rfl rfl rfl rfl _ _ 0 rfl (fun w S hw hs hb hc=>iZ B2 A d b 0 2 S w hs (fun k hk=>(hb k hk).1) hc8 hl K1 (hw.fD hX hb) K1) (by rintro _ _ ⟨⟨ex,hx,rfl⟩,rfl⟩;exfalso;omega) ?_;rintro _ _ ⟨hr0,rfl,rfl⟩
 refine Zx (k:=Z4z ?_);iterate 2 refine Z4x ?_
 refine OW.kz (ec [0,1,0] 2 rfl rfl) ?_;refine OW.eR hn rfl rfl rfl rfl rfl rfl _ _ 0 rfl (fun w S2 hw hs hk hc=>hq B2 w S2 hw.one hs hk) (by rintro _ _ ⟨⟨rfl,hx⟩,rfl⟩;(repeat(first|refine jr ?_|refine kK ?_));refine⟨57,_,rfl,Mx,fun a w ha hw=>?_⟩;obtain⟨S1,h1,h2',h3,h4,h5⟩:=HA.focus (p:=HP.aw B1 4 [.bool false]) (A:=[]) hw;refine(Nh B1 false S1 w h1 (fun k hk=>(h2' k hk).1)).mono fun e2 u2 w2 ⟨he,hu,Hn,hHn,hA⟩=>?_;subst he hu hHn;have hA2:=h5 _ _ hA;refine⟨_,rfl,rfl,?_⟩;exact⟨_,_,lq results31 _ _ (rv.run (rv.fW Nx rfl (dU 0 rfl) rfl) ha hA2),.inr ⟨hx,rfl,rfl⟩,HA.sels hA2 (is:=[]) rfl⟩) ?_;rintro _ _ ⟨q,p2,hR,rfl⟩
 refine Zs ?_ ?_
 all_goals
  refine Z4t ?_;intros;refine⟨57,_,rfl,Mx,fun a w ha hw=>?_⟩;refine(MX B1 w).mono fun e2 u2 w2 ⟨he,hu,Hz,hHn,hA⟩=>?_;subst he hu hHn;have hA2:=hw.behind hA;refine Z20 (k:=?_);exact⟨_,_,lq results31 _ _ (rv.run (rv.fW Nx rfl (dU 0 rfl) rfl) ha hA2),.inl ⟨q,p2,hR,aq Value.bool (by simp_all [IntKind.wrap_u64]),rfl⟩,HA.sels hA2 (is:=[2]) rfl⟩
def EH(v x:Value):Mv prog (.iface 155 v) "dunnage/wire.read" [x] 344 [v,x]:=fun w=>by kernel_rfl
def F3(v x:Value):Mv prog (.iface 362 v) "dunnage/wire.read" [x] 347 [v,x]:=fun w=>by kernel_rfl
def Es(v x:Value):Mv prog (.iface 363 v) "dunnage/wire.read" [x] 350 [v,x]:=fun w=>by kernel_rfl
def DS(v x:Value):Mv prog (.iface 364 v) "dunnage/wire.read" [x] 353 [v,x]:=fun w=>by kernel_rfl
def LY(B:Nat)(A:am)(d:Nat)(b:ap)(w0:World)(F:Nat->Prop)(H:List HP)(hc8:b.length<=d)(hl:b.length<=100000)(h49:49<=b.length)(hX:Rd w0 F A (aA b)):∃f args,Mv prog (Fz (tB b)).v "dunnage/wire.read" [Y B 0] f args/\
  ∀w S,HA w0 F (HP.aw B 142 [.slice A b.length d,J ((49:Nat):Int)]::H) w->(HP.aw B 142 [.slice A b.length d,J ((49:Nat):Int)]).bA S w->(∀k,S k->k<w.heap.size/\¬F k)->ah w (fun k=>F k\/S k) H->Calls prog f args.toArray w (db w (fun k=>k<w.heap.size/\¬S k) (fun v Hn=>sC (qk (rk b))<=b.length/\v=(yF b).v/\Hn=[HP.aw B 142 [.slice A b.length d,J ((sC (qk (rk b)):Nat):Int)]]) fun c Hp=>(∃e:Unit,b.length<sC (qk (rk b))/\c=E.early)/\Hp=[]):=by
 unfold yF;rcases xh (rk b) with h|h|h|h
 ·rw[NU (q:=tB b) h,h];exact⟨_,_,EH _ _,fun w S hw hs hb hc=>bK.toX ((Vd hs (fun k hk=>(hb k hk).1) (E6 B w)).mono fun e w' ⟨v,Hn,h1,⟨Hm,⟨h2,h3⟩,h4⟩,h5⟩=>⟨v,Hn,h1,⟨h49,h2,by rw[h4,h3];rfl⟩,h5⟩)⟩
 ·rw[NO (q:=tB b) h,h];exact⟨_,_,F3 _ _,fun w S hw hs hb hc=>T4 B A d b 49 S w hs (fun k hk=>(hb k hk).1) hc8 hl h49 (hw.fD hX hb)⟩
 ·rw[Ip (q:=tB b) h,h];exact⟨_,_,Es _ _,fun w S hw hs hb hc=>MV B A d b 49 S w hs (fun k hk=>(hb k hk).1) hc8 hl h49 (hw.fD hX hb)⟩
 rw[Gu (q:=tB b) h,h];exact⟨_,_,DS _ _,fun w S hw hs hb hc=>SU B A d b 49 S w hs (fun k hk=>(hb k hk).1) hc8 hl h49 (hw.fD hX hb)⟩
def abb(B PO:Nat)(A:am)(d:Nat)(b:ap)(S:Nat->Prop)(w0:World)(hS:(HP.dj [HP.aw B 142 [.slice A b.length d,J ((2:Nat):Int)],HP.aw PO 263 Gw.Rq.z.cw]).bA S w0)(hb:∀k,S k->k<w0.heap.size)(hc8:b.length<=d)(hl:b.length<=100000)(h3:3<=b.length)(hX:Rd w0 (Fm w0 S) A (aA b)):
  Calls prog 161 #[Y B 0,Y PO 0] w0 (db w0 (Fm w0 S) (fun v Hn=>sC (qk (rk b))<=b.length/\Hn=[HP.aw B 142 [.slice A b.length d,J ((sC (qk (rk b)):Nat):Int)],HP.aw PO 263 (sG b).cw]) fun c Hp=>(∃e:Unit,b.length<sC (qk (rk b))/\c=E.early)/\Hp=[]):=by
 have hql:=GX (qk (rk b));refine ZX (HA.au hS hb) ?_;refine Zx (k:=Z24 (k:=Z4t ?_));refine OW.eR (aE:= #[]) Mx rfl rfl rfl rfl rfl rfl _ _ 0 rfl (fun w S hw hs hb hc=>iZ B A d b 2 1 S w hs (fun k hk=>(hb k hk).1) hc8 hl K1 (hw.fD hX hb) K1) (by rintro _ _ ⟨⟨ex,hx,rfl⟩,rfl⟩;refine Kp (k:=?_);refine⟨[],_,rfl,?_,rfl⟩;exact⟨(),K1,rfl⟩) ?_;rintro _ _ ⟨hr0,rfl,rfl⟩
 refine Z4x ?_;refine OW.put 5 (U (rk b)) rfl rfl ?_;refine Z4t ?_;refine OW.eR (aE:= #[]) Mx rfl rfl rfl rfl rfl rfl _ _ 1 rfl (fun w S hw hs hb hc=>By B A d b 3 46 S w hs (fun k hk=>(hb k hk).1) hc8 hl K1 (hw.fD hX hb) K1) (by rintro _ _ ⟨⟨ex,hx,rfl⟩,rfl⟩;refine Kp (k:=?_);refine⟨[],_,rfl,?_,rfl⟩;exact⟨(),K1,rfl⟩) ?_;rintro _ _ ⟨hr1,AR,cR,rfl,rfl⟩
 refine Zg @GF ?_;have htl:=(qv (b:=((b.drop 3).take 46)) (by rw[cf,bN];omega)).tag
 iterate 3 refine Z4x ?_
 refine OW.put 11 (.agg (Au.dec ((b.drop 3).take 46)).cw.toArray) rfl (by unfold Gw.Tk.v;rw[Gw.Tk.pf htl]) ?_
 refine Z4u ?_;refine CW.conv (cg 0 (HP.aw PO 263 (tB b).cw) rfl rfl) ?_;refine CW.gx (T:=[9]) mixed [0] rfl ?_;iterate 6 refine Z4v ?_
 refine Z4G ?_;refine Zg @DK ?_;refine Zj (k:=Z4O ?_);first|(refine OW.tr rfl rfl rfl rfl rfl rfl _ _ 0 rfl (LY B A d b w0 _ _ hc8 hl K1 hX) ?_ ?_;(focus (rintro _ _ ⟨⟨ex,hx,rfl⟩,rfl⟩;refine Kp (k:=?_);refine⟨[],_,rfl,?_,rfl⟩;exact⟨(),hx,rfl⟩));rintro _ _ ⟨hr2,rfl,rfl⟩)|(refine OW.tr rfl rfl rfl rfl rfl rfl _ _ 1 rfl (LY B A d b w0 _ _ hc8 hl K1 hX) ?_ ?_;(focus (rintro _ _ ⟨⟨ex,hx,rfl⟩,rfl⟩;refine Kp (k:=?_);refine⟨[],_,rfl,?_,rfl⟩;exact⟨(),hx,rfl⟩));rintro _ _ ⟨hr2,rfl,rfl⟩)|(refine OW.tr rfl rfl rfl rfl rfl rfl _ _ 2 rfl (LY B A d b w0 _ _ hc8 hl K1 hX) ?_ ?_;(focus (rintro _ _ ⟨⟨ex,hx,rfl⟩,rfl⟩;refine Kp (k:=?_);refine⟨[],_,rfl,?_,rfl⟩;exact⟨(),hx,rfl⟩));rintro _ _ ⟨hr2,rfl,rfl⟩)
 refine Zj (k:=Z4D ?_);refine OW.call Mx rfl rfl rfl rfl rfl rfl _ (fun w hw=>NH (rk b) (Au.dec ((b.drop 3).take 46)) (yF b) w) ?_;rintro _ _ ⟨rfl,rfl⟩;refine Z4w ?_;refine E.AW.put 22 (.agg (sG b).cw.toArray) rfl (by rw[RW]) ?_
 refine E.AW.jK 9 K0 rfl K0 ?_;refine Z4t ?_;refine(KR.zero [1,0] rfl rfl ?_).1;exact⟨hr2,rfl⟩
instance:CB 263 #[] ((.agg #[U 0,U 0,U 0,V 0,O 0,U 0,U 0,U 0,U 0,U 0,U 0,U 0,U 0,U 0,U 0,U 0,U 0,U 0,U 0,U 0,U 0,U 0,U 0,U 0,U 0,U 0,U 0,U 0,U 0,U 0,U 0,U 0,U 0,U 0,U 0,U 0,U 0,U 0,U 0,O 0])):=⟨fun _=>K0⟩
def Pw(A:am)(d:Nat)(b:ap)(PO:Nat)(S:Nat->Prop)(w0:World)(hS:(HP.aw PO 263 Gw.Rq.z.cw).bA S w0)(hb:∀k,S k->k<w0.heap.size)(hc8:b.length<=d)(hl:b.length<=100000)(h3:3<=b.length)(hX:Rd w0 (Fm w0 S) A (aA b)):
  CF 31 #[.slice A b.length d,.func (.func 161) #[] #[Y PO 0]] w0 S fun v Hn=>(j7 b=true/\v=.bool true/\Hn=[HP.aw PO 263 (sG b).cw])\/(j7 b=false/\v=.bool false/\Hn=[]):=by
 refine(CT A d b 161 #[Y PO 0] (HP.aw PO 263 Gw.Rq.z.cw) S (fun q p2=>q=sC (qk (rk b))/\p2=HP.aw PO 263 (sG b).cw) (b.length<sC (qk (rk b))) w0 Mx hS hb hc8 hl K1 hX (fun B w S2 hw hs hk=>?_)).mono fun e w2 ⟨v,Hn,h1,h2,h4⟩=>?_
 ·refine(abb B PO A d b S2 w hs (fun k h=>(hk k h).1) hc8 hl h3 (hw.fD hX hk)).mono fun e w2 h=>?_;rcases h with⟨v,Hn,h1,⟨h2,h5⟩,h4⟩|⟨c,Hp,h1,⟨⟨e2,h2,h5⟩,h4⟩,h6⟩
  ·exact .inl ⟨v,Hn,h1,⟨_,_,⟨rfl,rfl⟩,h5⟩,h4⟩
  exact .inr ⟨c,Hp,h1,⟨⟨h5,h2⟩,h4⟩,h6⟩
 rcases h2 with⟨q,p2,⟨rfl,rfl⟩,h2,rfl⟩|⟨hx,h2,rfl⟩
 ·rw[<-JE] at h2;cases hq:j7 b with
  |true=>exact⟨v,_,h1,.inl ⟨rfl,by rw[h2,hq],rfl⟩,h4⟩
  |false=>exact⟨v,[],h1,.inr ⟨rfl,by rw[h2,hq],rfl⟩,HA.sels h4 (is:=[]) rfl⟩
 exact⟨v,_,h1,.inr ⟨Jf hx,h2,rfl⟩,h4⟩
def U3(A:am)(d:Nat)(b:ap)(w0:World)(hc8:b.length<=d)(hl:b.length<=100000)(hX:ce w0 A (aA b)):
  CV 127 #[.slice A b.length d] w0 (.tuple #[.agg (dT b).1.cw.toArray,J (dT b).2]):=by
 refine Zq ?_;refine Zc ?_ ?_
 ·refine Zk ?_;intros;have e9:dT b=(Gw.Rq.z,10):=aa K1;exact⟨by rw[e9]<;>rfl,rfl⟩
 refine Z4t ?_;intro _ hc BO;refine OW.aU Mx rfl rfl rfl rfl rfl rfl _ 0 rfl (fun w S hw hs hb hc=>Pw A d b BO S w hs (fun k hk=>(hb k hk).1) hc8 hl K1 (hw.fD hX hb)) ?_;rintro _ _ (⟨hW,rfl,rfl⟩|⟨hW,rfl,rfl⟩)
 all_goals
  refine Zx (k:=Z4z ?_);iterate 4 refine Z4x ?_
  first|(refine OW.off rfl rfl rfl ?_)|((refine OW.call Mx rfl rfl rfl rfl rfl rfl _ (fun w hw=>V9 (sG b) w (DL (vu hW))) ?_;rintro _ _ ⟨rfl,rfl⟩))
  refine Zd ?_ ?_
  ·try exact⟨⟩
   all_goals
    refine Zk ?_;intros;have e9:dT b=(Gw.Rq.z,11):=(ae K1).trans (ae (by rintro⟨h8,h9⟩;simp_all))
    exact⟨by rw[e9]<;>rfl,rfl⟩
  try exact⟨⟩
  all_goals
   refine Zk ?_;intros;have e9:dT b=(sG b,0):=(ae K1).trans (aa ⟨hW,by assumption⟩)
   exact⟨by rw[e9]<;>rfl,rfl⟩
instance(a:am)(b c:Nat)(d:Int):CB 151 #[(0,.slice a b c),(1,J d)] ((.agg #[.slice a b c,J d])):=⟨fun _=>K0⟩
instance(a:Int)(b:am)(c d:Nat):CB 153 #[(0,O a),(1,.slice b c d)] ((.agg #[O a,.slice b c d])):=⟨fun _=>K0⟩
def vU(x:Rw)(w0:World):
  CV 35 #[x.v] w0 ((pbd x).v):=by
 refine Zq ?_;refine Zc ?_ ?_
 ·refine Zk ?_;intros;exact⟨by rw[HQ (ady K2)]<;>rfl,rfl⟩
 refine Zc ?_ ?_
 ·refine Zk ?_;intros;exact⟨by rw[G8 (acf K1 K1)]<;>rfl,rfl⟩
 refine Zc ?_ ?_
 ·refine Zk ?_;intros;exact⟨by rw[G8 (acf K1 K1)]<;>rfl,rfl⟩
 refine Zc ?_ ?_
 ·refine Zk ?_;intros;exact⟨by rw[Rm (aei K1 K1)]<;>rfl,rfl⟩
 refine Zc ?_ ?_
 ·refine Zk ?_;intros;exact⟨by rw[O3 (aed K1 K1)]<;>rfl,rfl⟩
 refine Zc ?_ ?_
 ·refine Zk ?_;intros;exact⟨by rw[OQ (aee K1 K1)]<;>rfl,rfl⟩
 refine Zc ?_ ?_
 ·refine Zk ?_;intros;exact⟨by rw[GN (acj K1 K1)]<;>rfl,rfl⟩
 refine Zk ?_;intros;exact⟨by rw[HQ (adx K1 K1)]<;>rfl,rfl⟩
instance(a b c:Int):CB 58 #[(0,U a),(1,J b),(2,V c)] ((.agg #[U a,J b,V c,J 0,U 0,V 0,.slice none 0 0,J 0,O 0,.slice none 0 0,U 0,U 0,V 0,O 0,U 0,U 0,U 0,U 0,U 0,U 0,U 0,U 0,U 0,U 0,U 0,U 0,U 0,U 0,U 0,U 0,U 0,U 0,U 0,U 0,U 0,U 0,U 0,U 0,U 0,U 0,U 0,U 0,U 0,U 0,U 0,U 0])):=⟨fun _=>K0⟩
def LF(x:Rw)(b:Bd)(w0:World):
  CV 34 #[x.v,b.v] w0 ((pof x b).v):=by
 cases b
 all_goals
  refine Zq ?_;refine Zd ?_ ?_
  ·try exact⟨⟩
   all_goals
    refine Zk ?_;intros;exact⟨rfl,rfl⟩
  try exact⟨⟩
  all_goals
   refine Zd ?_ ?_
   ·try exact⟨⟩
    all_goals
     refine Zx (k:=Z4y ?_);intros;refine Z4R ?_;refine Zk ?_;exact⟨rfl,rfl⟩
   try exact⟨⟩
   all_goals
    refine Zd ?_ ?_
    ·try exact⟨⟩
     all_goals
      refine Zx (k:=Z4y ?_);intros;refine Z4R ?_;refine Zk ?_;exact⟨rfl,rfl⟩
    try exact⟨⟩
    all_goals
     refine Zd ?_ ?_
     ·try exact⟨⟩
      all_goals
       refine Zx (k:=Z4y ?_);intros;refine Z4R ?_;refine Zk ?_;exact⟨rfl,rfl⟩
     try exact⟨⟩
     all_goals
      refine Zd ?_ ?_
      ·try exact⟨⟩
       all_goals
        refine Zk ?_;intros;exact⟨rfl,rfl⟩
      try exact⟨⟩
      all_goals
       refine Zk ?_;intros;exact⟨rfl,rfl⟩
def Vo{t:Gw.Tk}(h:fit t):∃l,keyOf prog 56 (.agg t.cw.toArray)=some l:=by
 have:=Xp t h;unfold Gw.Tk.v at this;rwa[Gw.Tk.pf h.tag] at this
def RB{s t:Gw.Tk}(hs:s.tag.length=32)(ht:t.tag.length=32):s=t↔Value.agg s.cw.toArray=Value.agg t.cw.toArray:=⟨fun h=>by rw[h],fun h=>(Gw.Tk.Vr hs ht).2 (sW h)⟩
def T6(x y:Rw)(w0:World)(hfx:x.r.fit)(hfy:y.r.fit)(hmx:E.dc w0 (Old w0) x.mem)(hmy:E.dc w0 (Old w0) y.mem):
  CV 61 #[x.v,y.v] w0 (.bool (decide (x.r=y.r))):=by
 have hX1:=hmx.at 0 rfl;have hX2:=hmx.at 1 rfl;have hY1:=hmy.at 0 rfl;have hY2:=hmy.at 1 rfl;have hl1:=hfx.rl;have hl2:=hfx.cl;refine Zq ?_;refine Zx (k:=Z4y ?_);intros;refine Z4z ?_;iterate 6 refine Z4x ?_
 refine OW.join 6 [2,3] rfl [(16,.bool (decide (x.r.kd=y.r.kd)&&decide (x.r.cd=y.r.cd)))] (fun hm=>?_) ?_
 ·skip
  all_goals
   refine OW.split 10 rfl (fun hc=>?_) (fun hc=>?_)<;>(try simp only[bz,reduceCtorEq] at hc)<;>try exact Kf
  all_goals
   refine Z4M ?_
  all_goals
   refine Z1W (k:=?_)
  all_goals
   refine Z4M ?_
  all_goals
   refine Z3J (k:=?_)
  all_goals
   refine Z1X (k:=?_)
  all_goals
   refine Z4F ?_
  all_goals
   refine OW.put 16 (.bool (decide (x.r.kd=y.r.kd)&&decide (x.r.cd=y.r.cd))) rfl K23 ?_
  all_goals
   exact OW.ti Kc hm
 refine Z4x ?_;refine OW.join 6 [2,3] rfl [(23,.bool ((decide (x.r.kd=y.r.kd)&&decide (x.r.cd=y.r.cd))&&decide (x.r.tk=y.r.tk)))] (fun hm=>?_) ?_
 ·skip
  all_goals
   refine OW.split 17 rfl (fun hc=>?_) (fun hc=>?_)<;>(try simp only[bz,reduceCtorEq] at hc)<;>try exact Kf
  all_goals
   refine Z4M ?_
  all_goals
   refine Z1W (k:=?_)
  all_goals
   refine Z4M ?_
  all_goals
   refine Z3J (k:=?_)
  all_goals
   refine Z1X (k:=?_)
  all_goals
   refine Z4F ?_
  all_goals
   refine OW.put 23 (.bool ((decide (x.r.kd=y.r.kd)&&decide (x.r.cd=y.r.cd))&&decide (x.r.tk=y.r.tk))) rfl K23 ?_
  all_goals
   exact OW.ti Kc hm
 refine Z4x ?_;refine OW.join 6 [2,3] rfl [(30,.bool (((decide (x.r.kd=y.r.kd)&&decide (x.r.cd=y.r.cd))&&decide (x.r.tk=y.r.tk))&&decide (x.r.od=y.r.od)))] (fun hm=>?_) ?_
 ·skip
  all_goals
   refine OW.split 24 rfl (fun hc=>?_) (fun hc=>?_)<;>(try simp only[bz,reduceCtorEq] at hc)<;>try exact Kf
  all_goals
   refine Z4M ?_
  all_goals
   refine Z1W (k:=?_)
  all_goals
   refine Z4M ?_
  all_goals
   refine Z3J (k:=?_)
  all_goals
   refine Z1X (k:=?_)
  all_goals
   refine Z4F ?_
  all_goals
   refine OW.put 30 (.bool (((decide (x.r.kd=y.r.kd)&&decide (x.r.cd=y.r.cd))&&decide (x.r.tk=y.r.tk))&&decide (x.r.od=y.r.od))) rfl K23 ?_
  all_goals
   exact OW.ti Kc hm
 refine Z4x ?_;refine OW.join 6 [2,3] rfl [(37,.bool ((((decide (x.r.kd=y.r.kd)&&decide (x.r.cd=y.r.cd))&&decide (x.r.tk=y.r.tk))&&decide (x.r.od=y.r.od))&&decide (x.r.st=y.r.st)))] (fun hm=>?_) ?_
 ·skip
  all_goals
   refine OW.split 31 rfl (fun hc=>?_) (fun hc=>?_)<;>(try simp only[bz,reduceCtorEq] at hc)<;>try exact Kf
  all_goals
   refine Z4M ?_
  all_goals
   refine Z1W (k:=?_)
  all_goals
   refine Z4M ?_
  all_goals
   refine Z3J (k:=?_)
  all_goals
   refine Z1X (k:=?_)
  all_goals
   refine Z4F ?_
  all_goals
   refine OW.put 37 (.bool ((((decide (x.r.kd=y.r.kd)&&decide (x.r.cd=y.r.cd))&&decide (x.r.tk=y.r.tk))&&decide (x.r.od=y.r.od))&&decide (x.r.st=y.r.st))) rfl K23 ?_
  all_goals
   exact OW.ti Kc hm
 refine Z4x ?_;refine OW.join 6 [2,3] rfl [(44,.bool (((((decide (x.r.kd=y.r.kd)&&decide (x.r.cd=y.r.cd))&&decide (x.r.tk=y.r.tk))&&decide (x.r.od=y.r.od))&&decide (x.r.st=y.r.st))&&decide (x.r.dn=y.r.dn)))] (fun hm=>?_) ?_
 ·skip
  all_goals
   refine OW.split 38 rfl (fun hc=>?_) (fun hc=>?_)<;>(try simp only[bz,reduceCtorEq] at hc)<;>try exact Kf
  all_goals
   refine Z4M ?_
  all_goals
   refine Z1W (k:=?_)
  all_goals
   refine Z4M ?_
  all_goals
   refine Z3J (k:=?_)
  all_goals
   refine Z1X (k:=?_)
  all_goals
   refine Z4F ?_
  all_goals
   refine OW.put 44 (.bool (((((decide (x.r.kd=y.r.kd)&&decide (x.r.cd=y.r.cd))&&decide (x.r.tk=y.r.tk))&&decide (x.r.od=y.r.od))&&decide (x.r.st=y.r.st))&&decide (x.r.dn=y.r.dn))) rfl K23 ?_
  all_goals
   exact OW.ti Kc hm
 refine Z4x ?_;refine OW.join 6 [2,3] rfl [(51,.bool ((((((decide (x.r.kd=y.r.kd)&&decide (x.r.cd=y.r.cd))&&decide (x.r.tk=y.r.tk))&&decide (x.r.od=y.r.od))&&decide (x.r.st=y.r.st))&&decide (x.r.dn=y.r.dn))&&decide (x.r.jb=y.r.jb)))] (fun hm=>?_) ?_
 ·skip
  all_goals
   refine OW.split 45 rfl (fun hc=>?_) (fun hc=>?_)<;>(try simp only[bz,reduceCtorEq] at hc)<;>try exact Kf
  all_goals
   refine Z4M ?_
  all_goals
   refine Z1W (k:=?_)
  all_goals
   refine Z4M ?_
  all_goals
   refine Z3J (k:=?_)
  all_goals
   first|(refine OW.off rfl rfl rfl ?_)|((refine OW.call Mx rfl rfl rfl rfl rfl rfl _ (fun w hw=>YV x.A x.c x.r.jb y.A y.c y.r.jb w K1 hfx.jb hfy.jb (hw.rd hX1) (hw.rd hY1)) ?_;rintro _ _ ⟨rfl,rfl⟩))
  all_goals
   refine Z4F ?_
  all_goals
   refine OW.put 51 (.bool ((((((decide (x.r.kd=y.r.kd)&&decide (x.r.cd=y.r.cd))&&decide (x.r.tk=y.r.tk))&&decide (x.r.od=y.r.od))&&decide (x.r.st=y.r.st))&&decide (x.r.dn=y.r.dn))&&decide (x.r.jb=y.r.jb))) rfl K23 ?_
  all_goals
   exact OW.ti Kc hm
 refine Z4x ?_;refine OW.join 6 [2,3] rfl [(58,.bool (((((((decide (x.r.kd=y.r.kd)&&decide (x.r.cd=y.r.cd))&&decide (x.r.tk=y.r.tk))&&decide (x.r.od=y.r.od))&&decide (x.r.st=y.r.st))&&decide (x.r.dn=y.r.dn))&&decide (x.r.jb=y.r.jb))&&decide (x.r.qd=y.r.qd)))] (fun hm=>?_) ?_
 ·skip
  all_goals
   refine OW.split 52 rfl (fun hc=>?_) (fun hc=>?_)<;>(try simp only[bz,reduceCtorEq] at hc)<;>try exact Kf
  all_goals
   refine Z4M ?_
  all_goals
   refine Z1W (k:=?_)
  all_goals
   refine Z4M ?_
  all_goals
   refine Z3J (k:=?_)
  all_goals
   refine Z1X (k:=?_)
  all_goals
   refine Z4F ?_
  all_goals
   refine OW.put 58 (.bool (((((((decide (x.r.kd=y.r.kd)&&decide (x.r.cd=y.r.cd))&&decide (x.r.tk=y.r.tk))&&decide (x.r.od=y.r.od))&&decide (x.r.st=y.r.st))&&decide (x.r.dn=y.r.dn))&&decide (x.r.jb=y.r.jb))&&decide (x.r.qd=y.r.qd))) rfl K23 ?_
  all_goals
   exact OW.ti Kc hm
 refine Z4x ?_;refine OW.join 6 [2,3] rfl [(65,.bool ((((((((decide (x.r.kd=y.r.kd)&&decide (x.r.cd=y.r.cd))&&decide (x.r.tk=y.r.tk))&&decide (x.r.od=y.r.od))&&decide (x.r.st=y.r.st))&&decide (x.r.dn=y.r.dn))&&decide (x.r.jb=y.r.jb))&&decide (x.r.qd=y.r.qd))&&decide (x.r.dF=y.r.dF)))] (fun hm=>?_) ?_
 ·skip
  all_goals
   refine OW.split 59 rfl (fun hc=>?_) (fun hc=>?_)<;>(try simp only[bz,reduceCtorEq] at hc)<;>try exact Kf
  all_goals
   refine Z4M ?_
  all_goals
   refine Z1W (k:=?_)
  all_goals
   refine Z4M ?_
  all_goals
   refine Z3J (k:=?_)
  all_goals
   refine Z1X (k:=?_)
  all_goals
   refine Z4F ?_
  all_goals
   refine OW.put 65 (.bool ((((((((decide (x.r.kd=y.r.kd)&&decide (x.r.cd=y.r.cd))&&decide (x.r.tk=y.r.tk))&&decide (x.r.od=y.r.od))&&decide (x.r.st=y.r.st))&&decide (x.r.dn=y.r.dn))&&decide (x.r.jb=y.r.jb))&&decide (x.r.qd=y.r.qd))&&decide (x.r.dF=y.r.dF))) rfl K23 ?_
  all_goals
   exact OW.ti Kc hm
 refine Z4x ?_;refine OW.join 6 [2,3] rfl [(72,.bool (((((((((decide (x.r.kd=y.r.kd)&&decide (x.r.cd=y.r.cd))&&decide (x.r.tk=y.r.tk))&&decide (x.r.od=y.r.od))&&decide (x.r.st=y.r.st))&&decide (x.r.dn=y.r.dn))&&decide (x.r.jb=y.r.jb))&&decide (x.r.qd=y.r.qd))&&decide (x.r.dF=y.r.dF))&&decide (x.r.kS=y.r.kS)))] (fun hm=>?_) ?_
 ·skip
  all_goals
   refine OW.split 66 rfl (fun hc=>?_) (fun hc=>?_)<;>(try simp only[bz,reduceCtorEq] at hc)<;>try exact Kf
  all_goals
   refine Z4M ?_
  all_goals
   refine Z1W (k:=?_)
  all_goals
   refine Z4M ?_
  all_goals
   refine Z3J (k:=?_)
  all_goals
   first|(refine OW.off rfl rfl rfl ?_)|((refine OW.call Mx rfl rfl rfl rfl rfl rfl _ (fun w hw=>Ul x.A2 x.c2 x.r.kS y.A2 y.c2 y.r.kS w K1 hfx.kS hfy.kS (hw.rd hX2) (hw.rd hY2)) ?_;rintro _ _ ⟨rfl,rfl⟩))
  all_goals
   refine Z4F ?_
  all_goals
   refine OW.put 72 (.bool (((((((((decide (x.r.kd=y.r.kd)&&decide (x.r.cd=y.r.cd))&&decide (x.r.tk=y.r.tk))&&decide (x.r.od=y.r.od))&&decide (x.r.st=y.r.st))&&decide (x.r.dn=y.r.dn))&&decide (x.r.jb=y.r.jb))&&decide (x.r.qd=y.r.qd))&&decide (x.r.dF=y.r.dF))&&decide (x.r.kS=y.r.kS))) rfl K23 ?_
  all_goals
   exact OW.ti Kc hm
 refine Zs ?_ ?_;all_goals first|(iterate 4 refine Z4x ?_;intros)|intros
 all_goals first|(refine OW.off rfl rfl rfl ?_)|(refine OW.pure rfl rfl rfl (PV.th (p:=x.r.tok=y.r.tok) Vi rfl rfl rfl (Vo hfx.tok).choose_spec (Vo hfy.tok).choose_spec (RB hfx.tok.tag hfy.tok.tag)) ?_)|skip
 all_goals
  refine Zk ?_;intros;exact⟨aq Value.bool (by rw[<-N6];unfold same;first|rfl|(simp;intros;simp_all;done)|(simp_all;done)),rfl⟩
def De(v:Value):Mv prog (.iface 147 v) "dunnage/wire.valid" [] 328 [v]:=fun w=>by kernel_rfl
def DJ(v:Value):Mv prog (.iface 149 v) "dunnage/wire.valid" [] 331 [v]:=fun w=>by kernel_rfl
def Ab(v:Value):Mv prog (.iface 151 v) "dunnage/wire.valid" [] 334 [v]:=fun w=>by kernel_rfl
def Bw(v:Value):Mv prog (.iface 153 v) "dunnage/wire.valid" [] 217 [v]:=fun w=>by kernel_rfl
def C5(v:Value):Mv prog (.iface 154 v) "dunnage/wire.valid" [] 342 [v]:=fun w=>by kernel_rfl
def aab(x:Rw)(w0:World)(F:Nat->Prop)(H:List HP)(hf:x.r.fit)(hm:E.dc w0 F x.mem):∃f args,Mv prog (pbd x).v "dunnage/wire.valid" [] f args/\∀w,HA w0 F H w->Calls prog f args.toArray w (bK w (Old w) fun v Hn=>v=.bool (yM x.r)/\Hn=[]):=by
 have hX1:=hm.at 0 rfl;have hX2:=hm.at 1 rfl;unfold yM;rcases xp x.r with h|h|h|h|h|h
 ·rw[HQ h,h];exact⟨_,_,sb _,fun w _=>sx w⟩
 ·rw[G8 h,h];exact⟨_,_,De _,fun w _=>Jl _ w⟩
 ·rw[Rm h,h];exact⟨_,_,DJ _,fun w _=>IB _ _ w⟩
 ·rw[O3 h,h];exact⟨_,_,Ab _,fun w hw=>Kq _ _ _ _ w (hw.rd hX1)⟩
 ·rw[OQ h,h];exact⟨_,_,Bw _,fun w hw=>xD _ _ _ _ w hf.kS (hw.rd hX2)⟩
 rw[GN h,h];refine⟨_,_,C5 _,fun w hw=>?_⟩;have:=FN x.r.tok w;unfold Gw.Tk.v at this;rwa[Gw.Tk.pf hf.tok.tag] at this
def QM(x:Rw)(w0:World)(hf:x.r.fit)(hm:E.dc w0 (Old w0) x.mem):
  CV 36 #[x.v] w0 (J (FU x.r)):=by
 have hbf:=IU hf;refine Zq ?_;refine Ze (k:=Z3 (k:=Z1i (k:=fun B1=>Zf (k:=Zi (k:=Zb (k:=Ze (k:=Z3 (k:=Z3M (k:=?_)))))))));refine OW.call Mx rfl rfl rfl rfl rfl rfl _ (fun w hw=>vU x w) ?_;rintro _ _ ⟨rfl,rfl⟩;refine Zf (k:=Zi (k:=Zb (k:=Ze (k:=Ze (k:=Z4R ?_)))))
 all_goals
  refine Z2t (k:=?_)
 all_goals
  refine Z2u (k:=?_)
 all_goals
  refine Z10 (k:=?_)
 all_goals
  refine OW.call Mx rfl rfl rfl rfl rfl rfl _ (fun w hw=>qB x.r.cd 65535 w) ?_;rintro _ _ ⟨rfl,rfl⟩
 all_goals
  refine Z1G (k:=?_)
 all_goals
  refine E.AW.first 3 rfl K0 K0 K0 rfl rfl rfl (PV.not rfl rfl) ?_
 all_goals
  refine Z2F (k:=?_)
 all_goals
  refine E.AW.split 10 rfl (fun hc=>?_) (fun hc=>?_)<;>(try simp only[bz,reduceCtorEq] at hc)<;>try exact Kf
 all_goals
  first|(refine E.AW.xE 5 rfl K0 K0 K0 rfl rfl rfl ?_)|(refine E.AW.first 5 rfl K0 K0 K0 rfl rfl rfl (PV.fieldAddr Ax rfl rfl) ?_)
 all_goals
  first|(refine E.AW.xE 6 rfl K0 K0 K0 rfl rfl rfl ?_)|(refine E.AW.first 6 rfl K0 K0 K0 rfl rfl rfl (PV.load (i:=0) Nx rfl rfl rfl rfl) ?_)
 all_goals
  first|(refine E.AW.xE 7 rfl K0 K0 K0 rfl rfl rfl ?_)|(refine E.AW.first 7 rfl K0 K0 K0 rfl rfl rfl (PV.fieldAddr Ax rfl rfl) ?_)
 all_goals
  first|(refine E.AW.xE 8 rfl K0 K0 K0 rfl rfl rfl ?_)|(refine E.AW.first 8 rfl K0 K0 K0 rfl rfl rfl (PV.load (i:=0) Nx rfl rfl rfl rfl) ?_)
 all_goals
  refine Z1d (k:=?_)
 all_goals
  first|(refine OW.off rfl rfl rfl ?_)|((refine OW.call Mx rfl rfl rfl rfl rfl rfl _ (fun w hw=>Lk x.r.kd x.r.cd w) ?_;rintro _ _ ⟨rfl,rfl⟩))
 all_goals
  refine Z1G (k:=?_)
 all_goals
  first|(refine E.AW.xE 10 rfl K0 K0 K0 rfl rfl rfl ?_)|(refine E.AW.first 10 rfl K0 K0 K0 rfl rfl rfl (PV.not rfl rfl) ?_)
 all_goals
  first|(refine E.AW.first 11 rfl K0 K0 K0 rfl rfl rfl (PV.yi rfl rfl rfl) ?_)|(refine E.AW.first 11 rfl K0 K0 K0 rfl rfl rfl (PV.yo rfl rfl rfl) ?_)
 all_goals
  refine E.AW.first 12 rfl K0 K0 K0 rfl rfl rfl (PV.move rfl rfl) ?_
 all_goals
  first|(refine E.AW.put 18 (.bool true) (v:=.bool true) rfl rfl ?_)|(refine E.AW.split 18 rfl (fun hc=>?_) (fun hc=>?_)<;>(try simp only[bz,reduceCtorEq] at hc)<;>try exact Kf)
 all_goals
  first|(refine E.AW.xE 13 rfl K0 K0 K0 rfl rfl rfl ?_)|(refine E.AW.first 13 rfl K0 K0 K0 rfl rfl rfl (PV.fieldAddr Ax rfl rfl) ?_)
 all_goals
  first|(refine E.AW.xE 14 rfl K0 K0 K0 rfl rfl rfl ?_)|(refine E.AW.first 14 rfl K0 K0 K0 rfl rfl rfl (PV.load (i:=0) Nx rfl rfl rfl rfl) ?_)
 all_goals
  first|(refine E.AW.xE 15 rfl K0 K0 K0 rfl rfl rfl ?_)|(refine E.AW.first 15 rfl K0 K0 K0 rfl rfl rfl (PV.gtr rfl rfl rfl) ?_)
 all_goals
  first|(refine E.AW.first 16 rfl K0 K0 K0 rfl rfl rfl (PV.yi rfl rfl rfl) ?_)|(refine E.AW.first 16 rfl K0 K0 K0 rfl rfl rfl (PV.yo rfl rfl rfl) ?_)
 all_goals
  refine E.AW.first 17 rfl K0 K0 K0 rfl rfl rfl (PV.move rfl rfl) ?_
 all_goals
  first|(refine E.AW.put 23 (.bool true) (v:=.bool true) rfl rfl ?_)|(refine E.AW.split 23 rfl (fun hc=>?_) (fun hc=>?_)<;>(try simp only[bz,reduceCtorEq] at hc)<;>try exact Kf)
 all_goals
  refine Z3P (k:=?_)
 all_goals
  refine E.AW.one 19 K0 rfl ?_
 all_goals
  first|(refine OW.off rfl rfl rfl ?_)|((refine OW.vC rfl rfl rfl rfl rfl rfl _ (aab x _ _ _ hf hm) ?_;rintro _ _ ⟨rfl,rfl⟩))
 all_goals
  refine Z1G (k:=?_)
 all_goals
  first|(refine E.AW.xE 20 rfl K0 K0 K0 rfl rfl rfl ?_)|(refine E.AW.first 20 rfl K0 K0 K0 rfl rfl rfl (PV.not rfl rfl) ?_)
 all_goals
  first|(refine E.AW.first 21 rfl K0 K0 K0 rfl rfl rfl (PV.yi rfl rfl rfl) ?_)|(refine E.AW.first 21 rfl K0 K0 K0 rfl rfl rfl (PV.yo rfl rfl rfl) ?_)
 all_goals
  refine E.AW.first 22 rfl K0 K0 K0 rfl rfl rfl (PV.move rfl rfl) ?_
 all_goals
  first|(refine E.AW.put 28 (.bool true) (v:=.bool true) rfl rfl ?_)|(refine E.AW.split 28 rfl (fun hc=>?_) (fun hc=>?_)<;>(try simp only[bz,reduceCtorEq] at hc)<;>try exact Kf)
 all_goals
  first|(refine E.AW.xE 23 rfl K0 K0 K0 rfl rfl rfl ?_)|(refine E.AW.first 23 rfl K0 K0 K0 rfl rfl rfl (PV.jD (i:=0) Ix rfl rfl rfl rfl) ?_)
 all_goals
  first|(refine E.AW.xE 24 rfl K0 K0 K0 rfl rfl rfl ?_)|(refine E.AW.first 24 rfl K0 K0 K0 rfl rfl rfl (PV.jD (i:=0) Ix rfl rfl rfl rfl) ?_)
 all_goals
  first|(refine E.AW.xE 25 rfl K0 K0 K0 rfl rfl rfl ?_)|(refine E.AW.first 25 rfl K0 K0 K0 rfl rfl rfl (PV.move rfl rfl) ?_)
 all_goals
  refine E.AW.one 26 K0 rfl ?_
 all_goals
  first|(refine OW.off rfl rfl rfl ?_)|((refine OW.call Mx rfl rfl rfl rfl rfl rfl _ (fun w hw=>LF x (pbd x) w) ?_;rintro _ _ ⟨rfl,rfl⟩))
 all_goals
  refine Z1G (k:=?_)
 all_goals
  refine E.AW.one 27 K0 rfl ?_
 all_goals
  first|(refine OW.off rfl rfl rfl ?_)|((refine OW.call Mx rfl rfl rfl rfl rfl rfl _ (fun w hw=>T6 x (pof x (pbd x)) w hf (by rw[Oc];exact hbf) (hw.sy hm) (Ui x (hw.sy hm))) ?_;rintro _ _ ⟨rfl,rfl⟩))
 all_goals
  refine Z1G (k:=?_)
 all_goals
  first|refine E.AW.put 33 (v:=.bool (decide (x.r=(pof x (pbd x)).r))) (.bool (decide (x.r=su x.r))) rfl (by rw[Oc]) ?_|skip
 all_goals
  first|(refine E.AW.xE 28 rfl K0 K0 K0 rfl rfl rfl ?_)|(refine E.AW.first 28 rfl K0 K0 K0 rfl rfl rfl (PV.not rfl rfl) ?_)
 all_goals
  first|(refine E.AW.first 29 rfl K0 K0 K0 rfl rfl rfl (PV.yi rfl rfl rfl) ?_)|(refine E.AW.first 29 rfl K0 K0 K0 rfl rfl rfl (PV.yo rfl rfl rfl) ?_)
 all_goals
  refine Z4E ?_
 all_goals
  skip;refine Z4B ?_;refine CW.cond rfl (fun hc=>?_) (fun hc=>?_)
  ·simp only[bz,reduceCtorEq] at hc
   all_goals
    refine Ze (k:=Z3 (k:=Zf (k:=Zi (k:=Zb (k:=Zm (k:=Zv (k:=Z4P ?_)))))));exact⟨aq (Value.int .i64) (Oy (by first|exact .inl (by assumption)|exact .inr (.inl (by assumption))|exact .inr (.inr (.inl K1))|exact .inr (.inr (.inr (.inl (by assumption))))|exact .inr (.inr (.inr (.inr (by assumption))))|(simp_all;done))).symm,rfl⟩
  first|((cases hc;done))|(simp only[bz,reduceCtorEq] at hc)
  all_goals
   refine ZB (k:=Zb (k:=Ze (k:=Z3 (k:=Zf (k:=Zi (k:=Zb (k:=Zm (k:=Z4P ?_))))))));exact⟨aq (Value.int .i64) (HW ⟨by assumption,by assumption,K1,by assumption,by assumption⟩).symm,rfl⟩
def Ci(v x:Value):Mv prog (.iface 155 v) "dunnage/wire.write" [x] 346 [v,x]:=fun w=>by kernel_rfl
def Bg(v x:Value):Mv prog (.iface 147 v) "dunnage/wire.write" [x] 329 [v,x]:=fun w=>by kernel_rfl
def B0(v x:Value):Mv prog (.iface 149 v) "dunnage/wire.write" [x] 332 [v,x]:=fun w=>by kernel_rfl
def Ds(v x:Value):Mv prog (.iface 151 v) "dunnage/wire.write" [x] 335 [v,x]:=fun w=>by kernel_rfl
def cZ(v x:Value):Mv prog (.iface 153 v) "dunnage/wire.write" [x] 340 [v,x]:=fun w=>by kernel_rfl
def Bt(v x:Value):Mv prog (.iface 154 v) "dunnage/wire.write" [x] 343 [v,x]:=fun w=>by kernel_rfl
def pwrite(x:Rw)(B:Nat)(bs:ap)(w0:World)(F:Nat->Prop)(H:List HP)(hf:x.r.fit)(hm:E.dc w0 F x.mem)(hz:bs.length<=20000):∃f args,Mv prog (pbd x).v "dunnage/wire.write" [Y B 0] f args/\
  ∀w S,HA w0 F (HP.ww B bs::H) w->(HP.ww B bs).bA S w->(∀k,S k->k<w.heap.size/\¬F k)->ah w (fun k=>F k\/S k) H->Calls prog f args.toArray w (bK w (fun k=>k<w.heap.size/\¬S k) fun v Hn=>Hn=[HP.ww B (bs++FT x.r)]):=by
 have hX1:=hm.at 0 rfl;have hX2:=hm.at 1 rfl;have hl1:=hf.rl;have hl2:=hf.cl;unfold FT;rcases xp x.r with h|h|h|h|h|h
 ·rw[HQ h,h];exact⟨_,_,Ci _ _,fun w S hw hs hb hc=>(Vd hs (fun k hk=>(hb k hk).1) (EB B w)).mono fun e w2 ⟨v,Hn,h1,⟨Hm,h2,h3⟩,h4⟩=>⟨v,Hn,h1,by rw[h3,h2];show _=[HP.ww B (bs++[])];rw[bp];rfl,h4⟩⟩
 ·rw[G8 h,h];exact⟨_,_,Bg _ _,fun w S hw hs hb hc=>L5 _ B bs S w hs (fun k hk=>(hb k hk).1) K1⟩
 ·rw[Rm h,h];refine⟨_,_,B0 _ _,fun w S hw hs hb hc=>?_⟩;have:=MR x.r.st x.r.dn B bs S w hs (fun k hk=>(hb k hk).1) K1;simp only[aQ] at this;exact this
 ·rw[O3 h,h];exact⟨_,_,Ds _ _,fun w S hw hs hb hc=>QD _ _ _ _ B bs S w hl1 (hw.fD hX1 hb) hs (fun k hk=>(hb k hk).1) K1⟩
 ·rw[OQ h,h];exact⟨_,_,cZ _ _,fun w S hw hs hb hc=>Oa _ _ _ _ B bs S w hl2 hf.kS (hw.fD hX2 hb) hs (fun k hk=>(hb k hk).1) K1⟩
 rw[GN h,h];refine⟨_,_,Bt _ _,fun w S hw hs hb hc=>?_⟩;have:=KB x.r.tok B bs S w hf.tok hs (fun k hk=>(hb k hk).1) K1;unfold Gw.Tk.v at this;rwa[Gw.Tk.pf hf.tok.tag] at this
instance:CB 287 #[] ((.agg #[.slice none 0 0])):=⟨fun _=>K0⟩
def SV(x:Rw)(w0:World)(hf:x.r.fit)(hm:E.dc w0 (Old w0) x.mem):
  CO 116 #[x.v] w0 fun v Hn=>∃A c,v=.tuple #[.slice A (oz x.r).length c,J (FU x.r)]/\Hn=[HP.row 5 1 A (oz x.r).length c (aA (oz x.r))]:=by
 refine Zq ?_;refine Zg @QM ?_;refine Zc ?_ ?_
 ·refine Z4u ?_;intros;refine ZV (k:=?_);refine Zl ?_;have e9:oz x.r=[]:=ae K2;exact⟨none,0,by rw[e9]<;>rfl,by rw[e9]<;>rfl⟩
 refine Zx (k:=Z4J ?_);intro _ hc BW;refine OW.bM 5 1 ?_;refine OW.Qq (bs:=[]) 1 0 rfl rfl ?_;refine Zh @dg ?_;refine Zh @dg ?_;refine Zh @dg ?_;refine Zg @vU ?_;refine Z4t ?_;intros;refine OW.vM rfl rfl rfl rfl rfl rfl _ 0 rfl (pwrite x BW (Dg.bs (IntKind.u64.wrap x.r.kd) 1 1++Dg.bs (IntKind.u64.wrap x.r.cd) 2 2++Dg.bs x.r.tk 8 8) _ _ _ hf hm K7) ?_;rintro _ _ rfl;refine Z4t ?_;refine OW.aU Mx rfl rfl rfl rfl rfl rfl _ 0 rfl (fun w S hw hs hb hc=>OF BW (Dg.bs (IntKind.u64.wrap x.r.kd) 1 1++Dg.bs (IntKind.u64.wrap x.r.cd) 2 2++Dg.bs x.r.tk 8 8++FT x.r) S w hs (fun k hk=>(hb k hk).1) (by have:=Bh hf;simp;omega)) ?_;rintro _ _ ⟨AF,cF,rfl,rfl⟩
 refine Z4t ?_;refine KR.two [1] rfl rfl rfl rfl ?_;have hz:FU x.r=0:=by assumption
 have e9:oz x.r=mM (Dg.bs (IntKind.u64.wrap x.r.kd) 1 1++Dg.bs (IntKind.u64.wrap x.r.cd) 2 2++Dg.bs x.r.tk 8 8++FT x.r):=aa hz;exact⟨AF,cF,by rw[e9,hz],by rw[e9]⟩
namespace Cf
def dc{α:Type}(p:Bs->Option (α×Bs))(x:α)(e:Bs):Prop:=(∀r,p (e++r)=some (x,r))/\∀n,n<e.length->p (e.take n)=none
theorem eL{α β:Type}{p:Bs->Option (α×Bs)}{q:α->Bs->Option (β×Bs)}{x:α}{y:β}{e e2:Bs}(h:dc p x e)(h2:dc (q x) y e2):dc (fun s=>(p s).bind fun z=>q z.1 z.2) y (e++e2):=by
 refine⟨fun r=>?_,fun n hn=>?_⟩
 ·show((p (e++e2++r)).bind fun z=>q z.1 z.2)=_;rw[aQ,h.1];exact h2.1 r
 show((p ((e++e2).take n)).bind fun z=>q z.1 z.2)=none;rcases dd n e.length with hl|hl
 ·rw[gK K1,h.2 n hl];rfl
 rw[nc,bU K1,h.1];exact h2.2 _ (by rw[aF] at hn;omega)
theorem pE{α β:Type}{p:Bs->Option (α×Bs)}{f:α->β}{x:α}{e:Bs}(h:dc p x e):dc (fun s=>(p s).map fun z=>(f z.1,z.2)) (f x) e:=
 ⟨fun r=>by show((p (e++r)).map fun z=>(f z.1,z.2))=_;rw[h.1];rfl,fun n hn=>by show((p (e.take n)).map fun z=>(f z.1,z.2))=none;rw[h.2 n hn];rfl⟩
theorem dL{α:Type}{p q:Bs->Option (α×Bs)}{x:α}{e:Bs}(hp:∀s,p s=q s)(h:dc p x e):dc q x e:=by
 rw[show q=p from funext fun s=>(hp s).symm];exact h
theorem re(v:UInt8):dc n1 v.toNat [v]:=⟨fun r=>rfl,fun n hn=>by
 have:n=0:=by simpa using hn
 subst this;rfl⟩
theorem xQ(l:Bs):dc (tk l.length) l l:=⟨fun r=>by
 unfold tk
 rw[aa (by rw[aF];omega),List.take_left,List.drop_left],fun n hn=>by
 unfold tk
 rw[ae (by rw[cf];omega)]⟩
def bytes(l:bv):Prop:=l.length<256/\∀n∈l,0<=n/\n<256
theorem V5{l:bv}(h:∀n∈l,0<=n/\n<256):is (l.map eo)=l:=by
 unfold is;rw[lu];conv=>rhs;rw[<-td l]
 exact List.map_congr_left fun n hn=>(gY (h n hn)).symm
theorem zD{n:Nat}(h:n<256):(eo (n:Int)).toNat=n:=by have:=gY (n:=(n:Int)) K1;omega
theorem D0{l:bv}(h:bytes l):dc ls l (iT l):=by
 have h1:=re (eo (l.length:Int));rw[zD h.1] at h1;have h2:=pE (f:=is) (xQ (l.map eo));rw[bZ,V5 h.2] at h2;exact dL (fun _=>rfl) (eL (q:=fun(k:Nat) (s:Bs)=>(tk k s).map fun(y:Bs×Bs)=>(is y.1,y.2)) h1 h2)
theorem V8:∀{l:bv},(∀n∈l,0<=n/\n<256)->∀k,k<=l.length->dc (nsP k) (l.take k) ((l.take k).map eo):=by
 intro l h k;induction k with
 |zero=>intro _;exact⟨fun r=>rfl,fun n hn=>by simp at hn⟩
 |succ k ih=>
  intro hk;have hb:=h _ (xj (show k<l.length by omega))
  have h1:=re (eo (l.getD k 0));have hx:=gY hb;have e1:l.take (k+1)=l.take k++[l.getD k 0]:=by rw[jS,aC (show k<l.length by omega)];simp[List.getD,show k<l.length by omega]
  have h2:=pE (f:=fun(y:Nat)=>l.take k++[(y:Int)]) h1;rw[<-hx] at h2;rw[e1,dZ];exact dL (fun _=>rfl) (eL (q:=fun(x:bv) (s:Bs)=>(n1 s).map fun(y:Nat×Bs)=>(x++[(y.1:Int)],y.2)) (ih K1) h2)
def tf(t:T):Prop:=bytes t.h/\bytes t.p/\bytes t.d/\(∀n∈nR t,0<=n/\n<256)/\(t.h.length=0->t=T.z)
def tp(h:bv)(s:Bs):Option (T×Bs):=if h.length=0 then some (⟨h,[],[],0,0,0,0,0⟩,s) else(ls s).bind fun p=>(ls p.2).bind fun d=>(nsP 5 d.2).map fun x=>(⟨h,p.1,d.1,x.1.getD 0 0,x.1.getD 1 0,x.1.getD 2 0,x.1.getD 3 0,x.1.getD 4 0⟩,x.2)
theorem XY{t:T}(h:tf t):dc Lt t (sE t):=by
 obtain⟨h1,h2,h3,h4,h5⟩:=h;have r1:=D0 h1;by_cases h0:t.h.length=0
 ·have ht:=h5 h0;subst ht;have e:sE T.z=iT T.z.h:=by unfold sE;rw[aa h0,bp]
  rw[e];refine⟨fun r=>?_,fun n hn=>?_⟩
  ·unfold Lt;rw[r1.1];rfl
  unfold Lt;rw[r1.2 n hn];rfl
 have e:sE t=iT t.h++(iT t.p++(iT t.d++(nR t).map eo)):=by unfold sE;rw[ae h0];simp only[aQ]
 rw[e];have r4:=V8 h4 5 (bb _);rw[show(nR t).take 5=nR t from rfl] at r4;have r4':=pE (f:=fun(x:bv)=>(⟨t.h,t.p,t.d,x.getD 0 0,x.getD 1 0,x.getD 2 0,x.getD 3 0,x.getD 4 0⟩:T)) r4;have r3:=eL (q:=fun(d:bv) (s:Bs)=>(nsP 5 s).map fun x=>((⟨t.h,t.p,d,x.1.getD 0 0,x.1.getD 1 0,x.1.getD 2 0,x.1.getD 3 0,x.1.getD 4 0⟩:T),x.2)) (D0 h3) r4';have r2:=eL (q:=fun(p:bv) (s:Bs)=>(ls s).bind fun d=>(nsP 5 d.2).map fun x=>((⟨t.h,p,d.1,x.1.getD 0 0,x.1.getD 1 0,x.1.getD 2 0,x.1.getD 3 0,x.1.getD 4 0⟩:T),x.2)) (D0 h2) r3;have r2':dc (tp t.h) t (iT t.p++(iT t.d++(nR t).map eo)):=dL (fun s=>by unfold tp;rw[ae h0]) r2
 have r0:=eL (q:=tp) r1 r2';exact dL (fun _=>rfl) r0
theorem TW{ts:List T}(h:∀t∈ts,tf t):∀k,k<=ts.length->dc (kJ k) (ts.take k) (gJ ts k):=by
 intro k;induction k with
 |zero=>intro _;exact⟨fun r=>by simp[gJ,kJ],fun n hn=>by simp[gJ] at hn⟩
 |succ k ih=>
  intro hk;have e1:ts.take (k+1)=ts.take k++[ts.getD k T.z]:=by rw[jS,aC (show k<ts.length by omega)];simp[List.getD,show k<ts.length by omega]
  have h2:=pE (f:=fun(y:T)=>ts.take k++[y]) (XY (h _ (qX (show k<ts.length by omega))))
  rw[oH K1,e1];exact dL (fun _=>rfl) (eL (q:=fun(x:List T) (s:Bs)=>(Lt s).map fun(y:T×Bs)=>(x++[y.1],y.2)) (ih K1) h2)
theorem DB{n:Int}(hn:0<=n/\n<18446744073709551616):∀k,k<=8->aO (be n k)=n/256^(8-k):=by
 intro k;induction k with
 |zero=>intro _;rw[nh hn.1 (by simpa using hn.2)];rfl
 |succ k ih=>
  intro hk;have hl:(be n k).length=k:=by simp[be]
  have e:aO (be n (k+1))=aO (be n k)*256+((eo (n/256^(7-k))).toNat:Int):=by
   rw[yW];unfold aO;rw[List.foldl_append];rfl
  rw[e,ih K1,<-Hl,show 8-k=(7-k)+1 by omega,<-OU,show 8-(k+1)=7-k by omega]
  omega
theorem l9(n:Int)(k:Nat):(be n k).length=k:=by simp[be]
theorem xU(a b:Bs):aO (a++b)=aO a*256^b.length+aO b:=by
 have key:∀(l:Bs) (x:Int),l.foldl (fun a c=>a*256+(c.toNat:Int)) x=x*256^l.length+aO l:=by
  intro l;induction l with
  |nil=>intro x;simp[aO]
  |cons y r ih=>
   intro x;have h1:=ih (x*256+(y.toNat:Int));have h2:=ih ((0:Int)*256+(y.toNat:Int));unfold aO;grind
 unfold aO;rw[List.foldl_append,key];rfl
def c7(a b:Nat)(l q:Bs)(ts:List T)(s:Bs):Option (C×Bs):=(tk 8 s).map fun st=>(⟨a,b,l,q,ts,aO st.1⟩,st.2)
def c6(a b:Nat)(l q:Bs)(n:Nat)(s:Bs):Option (C×Bs):=(kJ n s).bind fun ts=>c7 a b l q ts.1 ts.2
def c5(a b:Nat)(l:Bs)(q:Bs)(s:Bs):Option (C×Bs):=(n1 s).bind fun n=>c6 a b l q n.1 n.2
def c4(a b:Nat)(l:Bs)(k:Nat)(s:Bs):Option (C×Bs):=(tk k s).bind fun q=>c5 a b l q.1 q.2
def c3(a b:Nat)(l:Bs)(s:Bs):Option (C×Bs):=(n1 s).bind fun k=>c4 a b l k.1 k.2
def c2(a b:Nat)(s:Bs):Option (C×Bs):=(tk (a*b) s).bind fun l=>c3 a b l.1 l.2
def c1(a:Nat)(s:Bs):Option (C×Bs):=(n1 s).bind fun b=>c2 a b.1 b.2
theorem W7{g:C}(ha:0<=g.a/\g.a<256)(hb:0<=g.b/\g.b<256)(hl:(g.l.length:Int)=g.a*g.b)(hs:g.s.length<256)(ht:g.ts.length<256)(hm:∀t∈g.ts,tf t)(hst:0<=g.st/\g.st<18446744073709551616):dc Ll g (enc g):=by
 have e:enc g=[eo g.a]++([eo g.b]++(g.l++([eo g.s.length]++(g.s++([eo g.ts.length]++(gJ g.ts g.ts.length++be g.st 8)))))):=by
  unfold enc head;simp only[aQ,jC,pz]
 obtain⟨A,hA⟩:∃A,(eo g.a).toNat=A:=⟨_,rfl⟩;obtain⟨B,hB⟩:∃B,(eo g.b).toNat=B:=⟨_,rfl⟩;have xa:(A:Int)=g.a:=by rw[<-hA];exact(gY ha).symm
 have xb:(B:Int)=g.b:=by rw[<-hB];exact(gY hb).symm
 have r8:=xQ (be g.st 8);rw[l9] at r8;have r8':dc (c7 A B g.l g.s g.ts) ⟨A,B,g.l,g.s,g.ts,aO (be g.st 8)⟩ (be g.st 8):=dL (fun _=>rfl) (pE (f:=fun(x:Bs)=>(⟨(A:Int),(B:Int),g.l,g.s,g.ts,aO x⟩:C)) r8);have r7:=TW hm g.ts.length (bb _);rw[bJ] at r7;have r6:=re (eo (g.ts.length:Int));rw[zD ht] at r6;have r5:=xQ g.s;have r4:=re (eo (g.s.length:Int));rw[zD hs] at r4;have r3:=xQ g.l
 have hll:g.l.length=A*B:=by
  have h2:(g.l.length:Int)=((A*B:Nat):Int):=by rw[tu,xa,xb];exact hl
  exact Int.ofNat.inj h2
 have hg:(⟨A,B,g.l,g.s,g.ts,aO (be g.st 8)⟩:C)=g:=by
  rw[xa,xb,DB hst 8 (bb _),oD,Int.pow_zero,Int.ediv_one]
 rw[hg] at r8';rw[hll] at r3;rw[e];have s7:dc (c6 A B g.l g.s g.ts.length) g (gJ g.ts g.ts.length++be g.st 8):=dL (fun _=>rfl) (eL (q:=c7 A B g.l g.s) r7 r8');have s6:dc (c5 A B g.l g.s) g ([eo g.ts.length]++(gJ g.ts g.ts.length++be g.st 8)):=dL (fun _=>rfl) (eL (q:=c6 A B g.l g.s) r6 s7);have s5:dc (c4 A B g.l g.s.length) g (g.s++([eo g.ts.length]++(gJ g.ts g.ts.length++be g.st 8))):=dL (fun _=>rfl) (eL (q:=c5 A B g.l) r5 s6);have s4:dc (c3 A B g.l) g ([eo g.s.length]++(g.s++([eo g.ts.length]++(gJ g.ts g.ts.length++be g.st 8)))):=dL (fun _=>rfl) (eL (q:=c4 A B g.l) r4 s5);have s3:dc (c2 A B) g (g.l++([eo g.s.length]++(g.s++([eo g.ts.length]++(gJ g.ts g.ts.length++be g.st 8))))):=dL (fun _=>rfl) (eL (q:=c3 A B) r3 s4);have s2:dc (c1 A) g ([eo g.b]++(g.l++([eo g.s.length]++(g.s++([eo g.ts.length]++(gJ g.ts g.ts.length++be g.st 8)))))):=dL (fun _=>rfl) (eL (q:=c2 A) (hB▸re (eo g.b)) s3);exact dL (fun _=>rfl) (eL (q:=c1) (hA▸re (eo g.a)) s2)
theorem mb{l:bv}(h:l.length<=3)(hp:∀n∈l,0<=n/\n<256):bytes l:=⟨K1,hp⟩
theorem yE{g:C}(h:check g=0){t:T}(ht:t∈g.ts):tf t:=by
 obtain⟨i,hi,rfl⟩:=eC ht;have hl:=jo (az h).1;have:=x9 h hi;have e:g.ts.getD i T.z=g.ts[i]:=by simp[List.getD,hi]
 rw[e] at this;generalize g.ts[i]=m at*;rcases this with ha|hv
 ·have:m=T.z:=bf ha;subst this;exact⟨⟨by simp[T.z],fun n hn=>by cases hn⟩,⟨by simp[T.z],fun n hn=>by cases hn⟩,⟨by simp[T.z],fun n hn=>by cases hn⟩,fun n hn=>by simp[nR,T.z] at hn;omega,fun _=>rfl⟩
 obtain⟨⟨s1,s2,s3⟩,_⟩:=DE hv
 have hb:∀n∈bC m,0<=n/\n<256:=fun n hn=>by
  have:=LC hv hn;unfold kH at this;simp only[ay,ax] at this;omega
 have hn:numbers m=true:=by
  unfold aS at hv;simp only[ay] at hv;exact hv.1.1
 have hln:=cz hn;unfold numbers sD NS at hn;simp only[List.all_cons,ay,ax] at hn;unfold bC at hb;refine⟨mb s1 fun n hn=>hb n (by simp[hn]),mb s2 fun n hn=>hb n (by simp[hn]),mb s3 fun n hn=>hb n (by simp[hn]),fun n hx=>?_,fun h0=>by omega⟩
 simp only[nR,er,bg,or_false] at hx;rcases hx with rfl|rfl|rfl|rfl|rfl<;>omega
theorem aai{g:C}(h:check g=0)(hst:0<=g.st):dc Ll g (enc g):=by
 obtain⟨h1,h2,h3,h4⟩:=az h;have hv:=(fG.1 h1).1;have hs:=Fl.dv.1 hv.1;have hl:=(eX.1 h2).1;have ht:=dw h3;exact W7 K1 K1 hv.2 K1 K1 (fun t=>yE h) K1
theorem jP{g:C}(h:check g=0):0<(enc g).length/\(enc g).length<=208:=by
 have h1:=CD h (bb _);unfold enc;rw[aF,l9];omega
theorem GP{g:C}(h:check g=0)(hst:0<=g.st):dec (enc g)=(g,0):=by
 have hr:=(aai h hst).1 [];rw[bp] at hr;have:=jP h;unfold dec;rw[ae K1,hr];simp[h]
theorem yd{g:C}(h:check g=0):kZ g=(enc g,0):=aa h
end Cf
namespace E
section
variable{P:Program}{n:Fr}{w0:World}{F:Nat->Prop}{K:Kt}{l:Env}{H:List HP}{o:Oper}
end
end E
namespace Wi
open Gw
theorem abY{n:Int}{m:Nat}(h0:0<=n)(h1:n<256^m):∀k,k<=m->aO (Dg.bs n m k)=n/256^(m-k):=by
 intro k;induction k with
 |zero=>intro _;rw[mY,nh h0 h1];rfl
 |succ k ih=>
  intro hk;grind [sL,xU,xA,Hl,OU]
theorem Md{n:Int}{m:Nat}(h0:0<=n)(h1:n<256^m):aO (Dg.bs n m m)=n:=by
 rw[abY h0 h1 m (bb _),oD,Int.pow_zero,Int.ediv_one]
theorem Yl{α:Type}(a b:List α){p:Nat}(hp:a.length=p):(a++b).drop p=b:=by
 grind
theorem lK{α:Type}(a b c:List α){p m:Nat}(hp:a.length=p)(hm:b.length=m):((a++(b++c)).drop p).take m=b:=by
 grind
theorem TK{t:Tk}(h:fit t):Au.dec (Au.enc t)=t:=by
 have h0:((Au.enc t).getD 0 0).toNat=t.tn:=(gY h.tn).symm;have h1:((Au.enc t).getD 1 0).toNat=t.role:=(gY h.role).symm
 have h2:((Au.enc t).drop 2).take 8=be t.exp 8:=by
  grind [Au.enc,lK,Au.l9]
 have h3:((Au.enc t).drop 10).take 4=Dg.bs t.dM 4 4:=by
  grind [Au.enc,lK,Au.l9,eS]
 have h4:(Au.enc t).drop 14=t.tag:=by
  grind [Au.enc,Yl,Au.l9,eS]
 have e2:aO (be t.exp 8)=t.exp:=by
  grind [DB,fit.exp]
 have e3:v7 (aO (Dg.bs t.dM 4 4))=t.dM:=by
  grind [Md,fit.dM,v7,IntKind.wrap_u32]
 unfold Au.dec;simp_all
structure TB(b:ap)(k:Int)(t:Tk):Prop where
 len:b.length=59
 v0:aO (b.take 2)=59
 v1:aO ((b.drop 2).take 1)=18
 v2:aO ((b.drop 3).take 2)=0
 v3:aO ((b.drop 5).take 8)=k
 v4:Au.dec ((b.drop 13).take 46)=t
theorem VG{k:Int}{t:Tk}(hk:k<=4611686018427387904):FU (eQ k 0 t)=0:=
 HW ⟨show rH 0 65535=true by decide,show xH 18 0=true by decide,hk,rfl,rfl⟩
theorem ab4{k:Int}{t:Tk}(hk:k<=4611686018427387904):oz (eQ k 0 t)=mM (Dg.bs (IntKind.u64.wrap 18) 1 1++Dg.bs (IntKind.u64.wrap 0) 2 2++Dg.bs k 8 8++Au.enc t):=aa (VG hk)
theorem VK{k:Int}{t:Tk}(h0:0<=k)(hk:k<=4611686018427387904)(ht:fit t):TB (oz (eQ k 0 t)) k t:=by
 rw[ab4 hk];have le:=Au.jP ht
 have hl:(Dg.bs (IntKind.u64.wrap 18) 1 1++Dg.bs (IntKind.u64.wrap 0) 2 2++Dg.bs k 8 8++Au.enc t).length=57:=by
  simp_all
 unfold mM;rw[hl];generalize hA:Dg.bs (IntKind.u64.wrap 18) 1 1=A at*;generalize hB:Dg.bs (IntKind.u64.wrap 0) 2 2=B at*;have lA:A.length=1:=by rw[<-hA,eS]
 have lB:B.length=2:=by rw[<-hB,eS]
 have lC:=eS k 8 8;refine⟨by grind,(show aO [eo (((57+2:Nat):Int)/2^min (8:Int).toNat IntKind.i64.bits),eo ((57+2:Nat):Int)]=59 by decide),?_,?_,?_,?_⟩
 ·show aO ((A++B++Dg.bs k 8 8++Au.enc t).take 1)=18;rw[aQ,aQ,show List.take 1 (A++_)=A from lK [] A _ rfl lA,<-hA];decide
 ·show aO (((A++B++Dg.bs k 8 8++Au.enc t).drop 1).take 2)=0;rw[aQ,aQ,lK A B _ lA lB,<-hB];decide
 ·show aO (((A++B++Dg.bs k 8 8++Au.enc t).drop 3).take 8)=k;grind [lK,Md]
 show Au.dec (((A++B++Dg.bs k 8 8++Au.enc t).drop 11).take 46)=t;rw[Yl _ _ (by rw[aF,aF,lA,lB,lC]),bU K1]
 exact TK ht
end Wi
namespace Bf
def lv(x:G):Nat->Nat->List Nat->Bool
 |0,_,ps=>decide (x.goal∈ps)
 |m+1,k,ps=>decide (x.goal∈ps)||lv x m ((k+1)%x.K) ((List.range x.n).filter fun q=>x.al ((k+1)%x.K) q&&ps.any fun p=>decide (q∈x.nr p))
theorem acW{x:G}:∀(m k:Nat) (ps:List Nat),lv x m k ps=true->∃p,p∈ps/\∃j,W x j k p
 |0,k,ps,h=>⟨x.goal,bf h,0,rfl⟩
 |m+1,k,ps,h=>by
  unfold lv at h
  rw[dI] at h
  rcases h with h|h
  ·exact⟨x.goal,bf h,0,rfl⟩
  ·obtain⟨q,hq,j,hW⟩:=acW m _ _ h
   obtain⟨_,h2⟩:=gN.1 hq
   rw[ay,ik] at h2
   obtain⟨hal,p,hp,hn⟩:=h2
   exact⟨p,hp,j+1,q,bf hn,hal,hW⟩
end Bf
namespace Rt
open Cf
theorem acg(l:bv):0<=Uo l:=by
 have key:∀(l:bv) (m:Int),0<=m->0<=l.foldl (fun m v=>if m<v then v else m) m:=by
  intro l;induction l with
  |nil=>intro m h;exact h
  |cons a r ih=>grind
 exact key l 0 (ov _)
theorem aaz:([0,1]:bv).all (fun t=>(fA (bQ ex t)).all fun x=>(List.range 6).all fun k=>lv (G ex t x.1 x.2) 20 k [x.1.toNat])=true:=by decide+kernel
theorem T9{t:Int}(ht:t=0\/t=1):0<=most ex t:=by
 have hT:fB ex t:=⟨uI,by rcases ht with rfl|rfl<;>decide+kernel⟩
 have h1:=aJ.1 aaz t (by rcases ht with rfl|rfl<;>simp)
 rw[BB]
 ·exact acg _
 intro v hv;obtain⟨x,hx,hv⟩:=ft.1 hv;have h2:=aJ.1 h1 x hx;unfold rowOf yq at hv;obtain⟨k,hk,rfl⟩:=cm.1 hv;have hL:=hT.HF hx;have hk6:=cu.1 hk;obtain⟨p,hp,j,hW⟩:=acW _ _ _ (aJ.1 h2 k hk);rw[bw.1 hp] at hW;exact(iB (rQ hL) hk6 hL.A (eH hL) hW).1
theorem M9:fV ex=0:=wG uI fun i hi=>T9 (by
 have e:aH ex.ts ex.ts.length=[0,1]:=by decide+kernel
 grind)
end Rt
namespace Gw
def o8:List St:=[⟨1,0,0,0,0,[]⟩,⟨4,0,0,1,5,[]⟩,⟨1,0,0,0,0,[]⟩,⟨4,1,0,4,5,[]⟩,⟨4,1,0,3,7,[]⟩]
def Lr:Tk:=sign [1] ⟨0,1,6,1,z32⟩
def Lq:Tk:=sign [1] ⟨1,3,9,1,z32⟩
theorem yy:fit Lq:=qt ⟨by decide,by decide,by decide,by decide,rfl⟩
def idle(p:Int):Cr.W:=⟨[⟨p,0,0,0,0,false⟩],Od.B.z,-1⟩
def Dx(k:Int):Tr.F:=⟨[idle 0,idle 10],[],k⟩
theorem Yx:new Cf.ex=⟨Dx 0,[Ac.z,Ac.z],[]⟩:=K0
theorem acX:Tr.step Cf.ex (Dx 0)=(Dx 1,[]):=K0
theorem acZ:Tr.step Cf.ex (Dx 1)=(Dx 2,[]):=K0
theorem G3{k:Int}{s:S}{n:Int}(hk:¬s.f.tk=last)(h:Tr.step Cf.ex s.f=(Dx n,[])):tick Wi.ops Cf.ex s=⟨Dx n,s.ac,s.outs⟩:=by
 grind [tick]
def p7:Ac:={Ac.z with ring:=[⟨1,6,false⟩]}
def acB:Ac:={Ac.z with ring:=[⟨3,9,false⟩]}
theorem ad4:step Wi.ops Cf.ex [1] ⟨Dx 0,[Ac.z,Ac.z],[]⟩ ⟨1,0,0,0,0,[]⟩=⟨Dx 1,[Ac.z,Ac.z],[]⟩:=by
 unfold step;rw[aa rfl];exact G3 (k:=0) (by decide) acX
theorem adz:step Wi.ops Cf.ex [1] ⟨Dx 1,[Ac.z,Ac.z],[]⟩ ⟨4,0,0,1,5,[]⟩=⟨Dx 1,[p7,Ac.z],[out Wi.ops 0 (eQ 1 0 Lr)]⟩:=by
 rw[kN rfl (by decide+kernel) (by decide+kernel)];rfl
theorem adO:step Wi.ops Cf.ex [1] ⟨Dx 1,[p7,Ac.z],[out Wi.ops 0 (eQ 1 0 Lr)]⟩ ⟨1,0,0,0,0,[]⟩=⟨Dx 2,[p7,Ac.z],[out Wi.ops 0 (eQ 1 0 Lr)]⟩:=by
 unfold step;rw[aa rfl];exact G3 (k:=0) (by decide) acZ
theorem aec:step Wi.ops Cf.ex [1] ⟨Dx 2,[p7,Ac.z],[out Wi.ops 0 (eQ 1 0 Lr)]⟩ ⟨4,1,0,4,5,[]⟩=⟨Dx 2,[p7,Ac.z],[out Wi.ops 0 (eQ 1 0 Lr)]⟩:=by
 unfold step;rw[ae (by decide),aa (by decide+kernel),ae (by decide),ae (by decide),aa rfl]
 unfold fM;rw[ae (by decide+kernel),ae (by decide+kernel)];rfl
theorem adR:step Wi.ops Cf.ex [1] ⟨Dx 2,[p7,Ac.z],[out Wi.ops 0 (eQ 1 0 Lr)]⟩ ⟨4,1,0,3,7,[]⟩=⟨Dx 2,[p7,acB],[out Wi.ops 0 (eQ 1 0 Lr),out Wi.ops 1 (eQ 2 0 Lq)]⟩:=by
 rw[kN rfl (by decide+kernel) (by decide+kernel)];rfl
theorem Y2:(run Wi.ops Cf.ex [1] (new Cf.ex) o8).outs=[out Wi.ops 0 (eQ 1 0 Lr),out Wi.ops 1 (eQ 2 0 Lq)]:=by
 rw[Yx];unfold o8 run;grind [ad4,run,adz,adO,aec,adR]
end Gw
instance(a b:Int)(c:am)(d e:Nat):CB 50 #[(0,J a),(1,V b),(2,.slice c d e)] ((.agg #[J a,V b,.slice c d e])):=⟨fun _=>K0⟩
def xc{a:Int}{b:Int}{c:am}{d e:Nat}(w:World):(Instr.buildSlice 39 1 #[(0,.agg #[J a,V b,.slice c d e])]).run prog w=.ok (.slice (some ⟨w.heap.size,0,none⟩) 1 1) (w.alloc (.cells #[J a,V b,.slice c d e] 50)):=K0
instance mZ:CB 58 #[] ((.agg #[U 0,J 0,V 0,J 0,U 0,V 0,.slice none 0 0,J 0,O 0,.slice none 0 0,U 0,U 0,V 0,O 0,U 0,U 0,U 0,U 0,U 0,U 0,U 0,U 0,U 0,U 0,U 0,U 0,U 0,U 0,U 0,U 0,U 0,U 0,U 0,U 0,U 0,U 0,U 0,U 0,U 0,U 0,U 0,U 0,U 0,U 0,U 0,U 0])):=⟨fun _=>K0⟩
instance(a:Int):CB 58 #[(3,J a)] ((.agg #[U 0,J 0,V 0,J a,U 0,V 0,.slice none 0 0,J 0,O 0,.slice none 0 0,U 0,U 0,V 0,O 0,U 0,U 0,U 0,U 0,U 0,U 0,U 0,U 0,U 0,U 0,U 0,U 0,U 0,U 0,U 0,U 0,U 0,U 0,U 0,U 0,U 0,U 0,U 0,U 0,U 0,U 0,U 0,U 0,U 0,U 0,U 0,U 0])):=⟨fun _=>K0⟩
instance(a b:Int):CB 58 #[(4,U a),(5,V b)] ((.agg #[U 0,J 0,V 0,J 0,U a,V b,.slice none 0 0,J 0,O 0,.slice none 0 0,U 0,U 0,V 0,O 0,U 0,U 0,U 0,U 0,U 0,U 0,U 0,U 0,U 0,U 0,U 0,U 0,U 0,U 0,U 0,U 0,U 0,U 0,U 0,U 0,U 0,U 0,U 0,U 0,U 0,U 0,U 0,U 0,U 0,U 0,U 0,U 0])):=⟨fun _=>K0⟩
instance(a:am)(b c:Nat)(d:Int):CB 58 #[(6,.slice a b c),(7,J d)] ((.agg #[U 0,J 0,V 0,J 0,U 0,V 0,.slice a b c,J d,O 0,.slice none 0 0,U 0,U 0,V 0,O 0,U 0,U 0,U 0,U 0,U 0,U 0,U 0,U 0,U 0,U 0,U 0,U 0,U 0,U 0,U 0,U 0,U 0,U 0,U 0,U 0,U 0,U 0,U 0,U 0,U 0,U 0,U 0,U 0,U 0,U 0,U 0,U 0])):=⟨fun _=>K0⟩
instance(a:Int)(b:am)(c d:Nat):CB 58 #[(8,O a),(9,.slice b c d)] ((.agg #[U 0,J 0,V 0,J 0,U 0,V 0,.slice none 0 0,J 0,O a,.slice b c d,U 0,U 0,V 0,O 0,U 0,U 0,U 0,U 0,U 0,U 0,U 0,U 0,U 0,U 0,U 0,U 0,U 0,U 0,U 0,U 0,U 0,U 0,U 0,U 0,U 0,U 0,U 0,U 0,U 0,U 0,U 0,U 0,U 0,U 0,U 0,U 0])):=⟨fun _=>K0⟩
instance(a b:Int):CB 58 #[(0,U a),(2,V b)] ((.agg #[U a,J 0,V b,J 0,U 0,V 0,.slice none 0 0,J 0,O 0,.slice none 0 0,U 0,U 0,V 0,O 0,U 0,U 0,U 0,U 0,U 0,U 0,U 0,U 0,U 0,U 0,U 0,U 0,U 0,U 0,U 0,U 0,U 0,U 0,U 0,U 0,U 0,U 0,U 0,U 0,U 0,U 0,U 0,U 0,U 0,U 0,U 0,U 0])):=⟨fun _=>K0⟩
instance(a b:Int):CB 58 #[(1,J a),(2,V b)] ((.agg #[U 0,J a,V b,J 0,U 0,V 0,.slice none 0 0,J 0,O 0,.slice none 0 0,U 0,U 0,V 0,O 0,U 0,U 0,U 0,U 0,U 0,U 0,U 0,U 0,U 0,U 0,U 0,U 0,U 0,U 0,U 0,U 0,U 0,U 0,U 0,U 0,U 0,U 0,U 0,U 0,U 0,U 0,U 0,U 0,U 0,U 0,U 0,U 0])):=⟨fun _=>K0⟩
instance(a b c:Int):CB 58 #[(0,U a),(2,V b),(3,J c)] ((.agg #[U a,J 0,V b,J c,U 0,V 0,.slice none 0 0,J 0,O 0,.slice none 0 0,U 0,U 0,V 0,O 0,U 0,U 0,U 0,U 0,U 0,U 0,U 0,U 0,U 0,U 0,U 0,U 0,U 0,U 0,U 0,U 0,U 0,U 0,U 0,U 0,U 0,U 0,U 0,U 0,U 0,U 0,U 0,U 0,U 0,U 0,U 0,U 0])):=⟨fun _=>K0⟩
instance BE{a:Int}{b:Int}{c:am}{d e:Nat}{f:am}{g h:Nat}{i:am}{j k:Nat}{l:Int}{m:am}{n o:Nat}{p:am}{q r:Nat}{s:am}{t u:Nat}{v:Int}:CB 91 #[(0,.agg #[J a,J b,.slice c d e,.slice f g h,.slice i j k,V l]),(1,.slice m n o),(2,.agg #[.slice p q r,.slice s t u,V v])] ((.agg #[J a,J b,.slice c d e,.slice f g h,.slice i j k,V l,.slice m n o,.slice p q r,.slice s t u,V v,.slice none 0 0,.slice none 0 0])):=⟨fun _=>K0⟩
def J3{a:am}{b c:Nat}{d:Int}{e:Int}{f:Int}{g:Int}{h:Int}{i:Int}{j:Int}{k:Int}{l:Int}{m:Int}{n:Int}{o:Int}{p:Int}{q:Int}{r:Int}{s:Int}{t:Int}{u:Int}{v:Int}{x:Int}{y:Int}{z:Int}{A:Int}{B:Int}{C:Int}{D:Int}{F:Int}{G:Int}{H:Int}{I:Int}{L:Int}{M:Int}{N:Int}{P:am}{Q R:Nat}{S:am}{T X:Nat}(w:World):(Instr.buildSlice 82 1 #[(0,.agg #[.slice a b c,O d,U e,U f,U g,U h,U i,U j,U k,U l,U m,U n,U o,U p,U q,U r,U s,U t,U u,U v,U x,U y,U z,U A,U B,U C,U D,U F,U G,U H,U I,U L,U M,U N,.slice P Q R,.slice S T X])]).run prog w=.ok (.slice (some ⟨w.heap.size,0,none⟩) 1 1) (w.alloc (.cells #[.slice a b c,O d,U e,U f,U g,U h,U i,U j,U k,U l,U m,U n,U o,U p,U q,U r,U s,U t,U u,U v,U x,U y,U z,U A,U B,U C,U D,U F,U G,U H,U I,U L,U M,U N,.slice P Q R,.slice S T X] 132)):=K0
instance:CB 84 #[] ((.agg #[J 0,J 0,.slice none 0 0,.slice none 0 0,.slice none 0 0,V 0,.slice none 0 0,.slice none 0 0,.slice none 0 0,V 0,.slice none 0 0])):=⟨fun _=>K0⟩
instance nY{a:Int}{b:Int}{c:am}{d e:Nat}{f:am}{g h:Nat}{i:am}{j k:Nat}{l:Int}{m:am}{n o:Nat}{p:am}{q r:Nat}{s:am}{t u:Nat}{v:Int}{x:am}{y z:Nat}:CB 84 #[(0,.agg #[J a,J b,.slice c d e,.slice f g h,.slice i j k,V l]),(1,.slice m n o),(2,.agg #[.slice p q r,.slice s t u,V v]),(3,.slice x y z)] ((.agg #[J a,J b,.slice c d e,.slice f g h,.slice i j k,V l,.slice m n o,.slice p q r,.slice s t u,V v,.slice x y z])):=⟨fun _=>K0⟩
def Li{a:Int}{b:Int}{c:Int}{d:Int}{e:Int}{f:am}{g h:Nat}(w:World):(Instr.buildSlice 29 1 #[(0,.agg #[U a,J b,J c,U d,V e,.slice f g h])]).run prog w=.ok (.slice (some ⟨w.heap.size,0,none⟩) 1 1) (w.alloc (.cells #[U a,J b,J c,U d,V e,.slice f g h] 48)):=K0
def FY(v x:Value):Mv prog (.iface 154 v) "dunnage/wire.read" [x] 341 [v,x]:=fun w=>by kernel_rfl
def pread(B:Nat)(A:am)(d:Nat)(b:ap)(k:Int)(w0:World)(F:Nat->Prop)(H:List HP)(hc8:b.length<=d)(hl:b.length<=100000)(h59:b.length=59)(hX:Rd w0 F A (aA b)):∃f args,Mv prog (pbd (Rw.of (Gw.eQ k 0 Gw.Tk.z))).v "dunnage/wire.read" [Y B 0] f args/\
  ∀w S,HA w0 F (HP.aw B 142 [.slice A b.length d,J ((13:Nat):Int)]::H) w->(HP.aw B 142 [.slice A b.length d,J ((13:Nat):Int)]).bA S w->(∀k,S k->k<w.heap.size/\¬F k)->ah w (fun k=>F k\/S k) H->Calls prog f args.toArray w (db w (fun k=>k<w.heap.size/\¬S k) (fun v Hn=>v=(Bd.tZ (Au.dec ((b.drop 13).take 46))).v/\Hn=[HP.aw B 142 [.slice A b.length d,J ((59:Nat):Int)]]) fun c Hp=>(∃e:Unit,b.length<59/\c=E.early)/\Hp=[]):=by
 rw[GN (x:=(Rw.of (Gw.eQ k 0 Gw.Tk.z))) (acj rfl rfl)];refine⟨_,_,FY _ _,fun w S hw hs hb hc=>(ID B A d b 13 S w hs (fun k hk=>(hb k hk).1) hc8 hl K1 (hw.fD hX hb)).mono fun e w2 h=>?_⟩;rcases h with⟨v,Hn,h1,⟨_,h2,h3⟩,h4⟩|h
 ·refine .inl ⟨v,Hn,h1,⟨?_,h3⟩,h4⟩;rw[h2];show Value.iface 154 _=Value.iface 154 _;unfold Gw.Tk.v;rw[Gw.Tk.pf (qv (by rw[cf,bN];omega)).tag]
 exact .inr h
def abU(B PO:Nat)(A:am)(d:Nat)(b:ap)(k:Int)(t:Gw.Tk)(S:Nat->Prop)(w0:World)(hS:(HP.dj [HP.aw B 142 [.slice A b.length d,J ((2:Nat):Int)],HP.aw PO 58 (Rw.of Gw.Rp.z).cells]).bA S w0)(hb:∀k,S k->k<w0.heap.size)(hc8:b.length<=d)(hl:b.length<=100000)(hT:TB b k t)(hX:Rd w0 (Fm w0 S) A (aA b)):
  Calls prog 32 #[Y B 0,Y PO 0] w0 (db w0 (Fm w0 S) (fun v Hn=>Hn=[HP.aw B 142 [.slice A b.length d,J ((59:Nat):Int)],HP.aw PO 58 (Rw.of (Gw.eQ k 0 t)).cells]) fun c Hp=>(∃e:Unit,b.length<59/\c=E.early)/\Hp=[]):=by
 have h59:=hT.len;refine ZX (HA.au hS hb) ?_;refine Zx (k:=Z24 (k:=Z4t ?_));refine OW.eR (aE:= #[]) Mx rfl rfl rfl rfl rfl rfl _ _ 0 rfl (fun w S hw hs hb hc=>iZ B A d b 2 1 S w hs (fun k hk=>(hb k hk).1) hc8 hl K1 (hw.fD hX hb) K1) (by rintro _ _ ⟨⟨ex,hx,rfl⟩,rfl⟩;refine Kp (k:=?_);refine⟨[],_,rfl,?_,rfl⟩;exact⟨(),K1,rfl⟩) ?_;rintro _ _ ⟨hr0,rfl,rfl⟩
 refine Z4x ?_;refine OW.put 5 (U 18) rfl (by rw[hT.v1]<;>rfl) ?_
 refine Z4t ?_;refine OW.eR (aE:= #[]) Mx rfl rfl rfl rfl rfl rfl _ _ 0 rfl (fun w S hw hs hb hc=>iZ B A d b 3 2 S w hs (fun k hk=>(hb k hk).1) hc8 hl K1 (hw.fD hX hb) K1) (by rintro _ _ ⟨⟨ex,hx,rfl⟩,rfl⟩;refine Kp (k:=?_);refine⟨[],_,rfl,?_,rfl⟩;exact⟨(),K1,rfl⟩) ?_;rintro _ _ ⟨hr1,rfl,rfl⟩
 refine Z4x ?_;refine OW.put 8 (J 0) rfl (by rw[hT.v2]<;>rfl) ?_
 refine Z4t ?_;refine OW.eR (aE:= #[]) Mx rfl rfl rfl rfl rfl rfl _ _ 0 rfl (fun w S hw hs hb hc=>iZ B A d b 5 8 S w hs (fun k hk=>(hb k hk).1) hc8 hl K1 (hw.fD hX hb) K1) (by rintro _ _ ⟨⟨ex,hx,rfl⟩,rfl⟩;refine Kp (k:=?_);refine⟨[],_,rfl,?_,rfl⟩;exact⟨(),K1,rfl⟩) ?_;rintro _ _ ⟨hr2,rfl,rfl⟩
 refine OW.put 10 (V k) rfl (by rw[hT.v3]) ?_
 refine Z4u ?_;refine CW.conv (cg 0 (HP.aw PO 58 (Rw.of (Gw.eQ k 0 Gw.Tk.z)).cells) rfl rfl) ?_;refine CW.gx (T:=[6]) mixed [0] rfl ?_;iterate 3 refine Z4v ?_
 refine Z10 (k:=?_);refine Zg @vU ?_;refine Zj (k:=ZR (k:=?_));first|(refine OW.tr rfl rfl rfl rfl rfl rfl _ _ 0 rfl (pread B A d b k w0 _ _ hc8 hl h59 hX) ?_ ?_;(focus (rintro _ _ ⟨⟨ex,hx,rfl⟩,rfl⟩;refine Kp (k:=?_);refine⟨[],_,rfl,?_,rfl⟩;exact⟨(),hx,rfl⟩));rintro _ _ ⟨rfl,rfl⟩)|(refine OW.tr rfl rfl rfl rfl rfl rfl _ _ 1 rfl (pread B A d b k w0 _ _ hc8 hl h59 hX) ?_ ?_;(focus (rintro _ _ ⟨⟨ex,hx,rfl⟩,rfl⟩;refine Kp (k:=?_);refine⟨[],_,rfl,?_,rfl⟩;exact⟨(),hx,rfl⟩));rintro _ _ ⟨rfl,rfl⟩)|(refine OW.tr rfl rfl rfl rfl rfl rfl _ _ 2 rfl (pread B A d b k w0 _ _ hc8 hl h59 hX) ?_ ?_;(focus (rintro _ _ ⟨⟨ex,hx,rfl⟩,rfl⟩;refine Kp (k:=?_);refine⟨[],_,rfl,?_,rfl⟩;exact⟨(),hx,rfl⟩));rintro _ _ ⟨rfl,rfl⟩)
 refine Zj (k:=Z4G ?_);refine Zg @LF ?_;refine Z4w ?_;refine E.AW.put 19 (Rw.of (Gw.eQ k 0 t)).v rfl (by rw[hT.v4]<;>rfl) ?_
 refine E.AW.jK 6 K0 rfl K0 ?_;refine Z4t ?_;refine(KR.zero [1,0] rfl rfl ?_).1;rfl
def Nb(A:am)(d:Nat)(b:ap)(PO:Nat)(k:Int)(t:Gw.Tk)(S:Nat->Prop)(w0:World)(hS:(HP.aw PO 58 (Rw.of Gw.Rp.z).cells).bA S w0)(hb:∀k,S k->k<w0.heap.size)(hc8:b.length<=d)(hl:b.length<=100000)(hT:TB b k t)(hX:Rd w0 (Fm w0 S) A (aA b)):
  CF 31 #[.slice A b.length d,.func (.func 32) #[] #[Y PO 0]] w0 S fun v Hn=>v=.bool true/\Hn=[HP.aw PO 58 (Rw.of (Gw.eQ k 0 t)).cells]:=by
 have h59:=hT.len;refine(CT A d b 32 #[Y PO 0] (HP.aw PO 58 (Rw.of Gw.Rp.z).cells) S (fun q p2=>q=59/\p2=HP.aw PO 58 (Rw.of (Gw.eQ k 0 t)).cells) (b.length<59) w0 Mx hS hb hc8 hl K1 hX (fun B w S2 hw hs hk=>?_)).mono fun e w2 ⟨v,Hn,h1,h2,h4⟩=>?_
 ·refine(abU B PO A d b k t S2 w hs (fun k h=>(hk k h).1) hc8 hl hT (hw.fD hX hk)).mono fun e w2 h=>?_;rcases h with⟨v,Hn,h1,h5,h4⟩|⟨c,Hp,h1,⟨⟨e2,h2,h5⟩,h4⟩,h6⟩
  ·exact .inl ⟨v,Hn,h1,⟨_,_,⟨rfl,rfl⟩,h5⟩,h4⟩
  exact .inr ⟨c,Hp,h1,⟨⟨h5,h2⟩,h4⟩,h6⟩
 rcases h2 with⟨q,p2,⟨rfl,rfl⟩,h2,rfl⟩|⟨hx,h2,rfl⟩
 ·exact⟨v,_,h1,⟨by rw[h2,hT.v0,h59];rfl,rfl⟩,h4⟩
 omega
def T7(A:am)(d:Nat)(b:ap)(k:Int)(t:Gw.Tk)(w0:World)(hc8:b.length<=d)(hl:b.length<=100000)(hT:TB b k t)(hk:k<=4611686018427387904)(ht:fit t)(hX:ce w0 A (aA b)):
  CV 15 #[.slice A b.length d] w0 (.tuple #[(Rw.of (Gw.eQ k 0 t)).v,J 0]):=by
 have h59:=hT.len;refine Zq ?_;refine Zh @Nb ?_;refine Z4t ?_;intro _ hc _;refine OW.call Mx rfl rfl rfl rfl rfl rfl _ (fun w hw=>QM (Rw.of (Gw.eQ k 0 t)) w (mu ht) (vi rfl rfl)) ?_;rintro _ _ ⟨rfl,rfl⟩;refine OW.put 17 (J 0) rfl (aq (Value.int .i64) (VG hk)) ?_;refine Zk ?_;exact⟨rfl,rfl⟩
def vg(g:aP)(t:Int)(w0:World)(hck:Cf.check g.q=0)(hg:g.rd w0 (Old w0))(hgf:g.q.fit):
  CV 87 #[g.v,J t] w0 (.bool (ag g.q.ts t)):=by
 refine Zq ?_;refine Zg @Gn ?_;refine Zs ?_ ?_
 all_goals
  refine Zk ?_;intros;exact⟨aq Value.bool (by rw[<-Jj hck t];simp_all),rfl⟩
def Cm(X:E.Sx)(s:Gw.S)(t:Int)(y:Rw)(S:Nat->Prop)(w0:World)(hS:(HP.si X s).bA S w0)(hb:∀k,S k->k<w0.heap.size)(hm:E.dc w0 (Fm w0 S) y.mem)(hf:y.r.fit)(hol:s.outs.length<=1000000000):
  CF 88 #[.pointer (some ⟨X.B,0,.none⟩),J t,y.v] w0 S fun v Hn=>Hn=[HP.si X {s with outs:=s.outs++[out Wi.ops t y.r]}]:=by
 refine Zp (HA.au hS hb) ?_;refine Zx (k:=Z3Q (k:=fun z hzq hzok=>?_));have hzl:=Si.ol hzq;refine Zg @SV ?_;refine Z4u ?_;intro _ AE cE;first|refine CW.wh (Et:=5) 0 rfl (fun hkc=>?_)|refine CW.wh (Et:=5) 1 rfl (fun hkc=>?_)|refine CW.wh (Et:=5) 2 rfl (fun hkc=>?_)
 obtain⟨eE,rfl⟩:∃e,cE=(oz y.r).length+e:=⟨cE-(oz y.r).length,K1⟩;refine CW.gx (T:=[14]) mixed [1,1] rfl ?_;iterate 10 refine Z4v ?_
 refine Z4H ?_;refine OW.buildSlice (Et:=50) (sz:=3) (cs:=fl Ow.cells [(Ow.mk (out Wi.ops t y.r) AE eE)]) (ps:=[(0,.tmp 22)]) rfl rfl rfl rfl rfl rfl K4 (fun w=>xc w) (fun AN=>?_);refine Zj (k:=ZU (k:=?_));refine OW.dJ (j:=0) (i:=4) Ow.fx Ux Jx rfl rfl rfl rfl rfl rfl rfl rfl rfl rfl K3 K3 (fun A3 c3=>?_);refine Z4w ?_;iterate 2 refine Z4v ?_
 refine E.AW.jK 14 K0 rfl K0 ?_;refine Zo (k:=Z4w ?_);refine E.AW.conv (dh [2,4,0,0,1] 2 rfl rfl (Si.mk z.f z.ws A3 c3 (z.os++[(Ow.mk (out Wi.ops t y.r) AE eE)])).mem (Si.Tu z A3 c3 (Ow.mk (out Wi.ops t y.r) AE eE))) ?_;refine E.AW.conv (ey (Si.mk z.f z.ws A3 c3 (z.os++[(Ow.mk (out Wi.ops t y.r) AE eE)])) [1,2,1,0] rfl (Si.aa6 hzq _ _ _) hzok) ?_;refine Zl ?_;rfl
end Go.Proofs.YtcgecopggfjojaaGreatDoor
