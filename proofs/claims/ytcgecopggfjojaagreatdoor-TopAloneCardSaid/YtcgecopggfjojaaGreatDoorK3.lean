/- Part 3: the logic, the plain laws and the walks behind TopAlone (lemmas only; each says its own conditions). -/
import Derived.ArgAppend
import Derived.Maps.AppendAt
import Derived.Test.YtcgecopggfjojaaGreatDoorK2
set_option maxRecDepth 100000
set_option linter.all false
set_option maxHeartbeats 0
namespace Go.Proofs.YtcgecopggfjojaaGreatDoor
open Go Go.RowKit
section
variable{P:Program}{n:E.Fr}{w0:World}{F:Nat->Prop}{K:E.Kt}{l:E.Env}{H:List E.HP}
namespace E
theorem List.jL{α:Type}{a b:List α}{m:Nat}(h:a.length<=m):(a++b).take m=a++b.take (m-a.length):=by
 rw[nc,bU h]
structure Yb where
 A:am
 c:Nat
 l:ap
def Yb.z:Yb:=⟨.none,0,[]⟩
def Yb.cs(s:Yb):bi:=[.slice s.A s.l.length s.c]
def Yb.fx:Fx Yb.cs 1:=⟨fun _=>rfl,fun x u I=>by simp[Yb.cs] at I;subst I;rfl,K1⟩
theorem Yb.mem{I:List Yb}{k:Nat}(h:k<I.length):I.getD k Yb.z∈I:=by
 grind
def fE(I:List Yb)(k:Nat):ap:=(I.take k).flatMap (·.l)
def og(I:List Yb):fE I 0=[]:=by simp[fE]
def uD{I:List Yb}{k:Nat}(h:k<I.length):fE I (k+1)=fE I k++(I.getD k Yb.z).l:=by
 grind [fE,List.take_add_one]
def Al(I:List Yb)(k:Nat):(fE I k).length<=(fE I I.length).length:=by
 grind [fE,List.take_append_drop]
section
variable{o:Oper}
variable {A:am}
def PV.yJ{t:TypeId}{x:Operand}{k:Nat}{I:List Yb}(M:∀w,HA w0 F H w->Rd w (Old w) A (fl Yb.cs I))(ht:Na P t)(ho:o.op=.load t x)(Q:ev l x=some (bB A k))(hk:k<I.length):
  PV P n w0 F l H o (.slice (I.getD k Yb.z).A (I.getD k Yb.z).l.length (I.getD k Yb.z).c):=PV.dR M ht ho Q (by have:=Yb.fx.get (z:=Yb.z) (l:=I) (k:=k) (j:=0) hk rfl;grind)
def OW.OM{ops:Array Oper}{M:List Oper}{d t t2 Et bytes i m c I Q:Nat}{z:Value}{x y:Operand}{ad:Addr}{xs cs:bi}{H':List HP}(hT:P.underlying t=some (.slice Et))(hI:In P Et z 1 bytes)(ho:o.op=.call {callee:=.builtin .copy,args:= #[x,y],argTypes:= #[t,t2]})(hg:gd ops l o.guard=some true)(hd:o.dst=some d)(hn:Nat.blt d n.sz=true)(hx:ev l x=some (.slice A m c))(hy:ev l y=some (.slice (some ad) I Q))(hi:sel H i=some (HP.row Et 1 A m c xs,H'))(hc:cs.length=Nat.min I m)(hm0:0<m)(hR:∀w,HA w0 F H w->Rd w (Old w) (some ad) cs)(h1:cs.all (·.oneCell')=true)(k:OW P n w0 F ops K M ((d,.int .i64 (cs.length:Int))::l) (HP.row Et 1 A m c (cs++xs.drop cs.length)::H')):OW P n w0 F ops K (o::M) l H:=
 OW.step hg hd hn (fun v H1=>v=.int .i64 (cs.length:Int)/\H1=HP.row Et 1 A m c (cs++xs.drop cs.length)::H')
  (fun a w ha hw=>by
   obtain⟨inf,hinf,hz0,hz1,hz2⟩:=hI.parts
   have hown:=hw.row hi
   rcases hown.2 with⟨Z,hm⟩|⟨g,cap,cur,Z,_,hgg,hnc,hcap,wj,htk⟩
   ·omega
   ·injection Z with hA _ hcc
    subst hA hcc
    have hle:cs.length<=m:=by grind
    have hcur:cur.size=c:=by simpa using wj
    have hsrc:∀j v,cs[j]? =some v->w.cell? (ad.add j)=some v:=fun j v hj=>by
     have hpos:0<cs.length:=by
      grind
     obtain⟨ad2,h2,_,h3⟩:=hR w hw hpos;grind
    have hr:=run_copy_row (P:=P) w t t2 o.type Et g 0 m c ad I Q cur Et cs hT (by rw[hinf];simp[hz1]) hgg hc hsrc K1 (fun v Z=>aJ.1 h1 v Z)
    simp only[qq,pz,jt] at hr;refine⟨_,w.setRow g (cs++cur.toList.drop cs.length).toArray,_,by simp only[execOp,ho,resolve,invoke,builtin,ha.ev hx,ha.ev hy];simp[ha.ev hx,ha.ev hy,hr,goInt],⟨rfl,rfl⟩,?_⟩
    have hlc:cur.toList.length=c:=by simpa using hcur
    refine(hw.sel hi).ox (A:=some ⟨g,0,none⟩) (A':=some ⟨g,0,none⟩) (m:=m) (m':=m) (c:=c) (c':=c) (xs:=xs) ?_ ?_ (.inl rfl)
    ·refine⟨rfl,rfl,rfl,by simp[World.setRow],fun k hk hne=>?_⟩
     grind [World.setRow,Value.ownBlock]
    refine⟨by grind,.inr ⟨g,c,_,rfl,bF _,setRow_heap w g cur _ Et _ hgg,hnc,hcap,?_,?_⟩⟩
    ·simp;omega
    grind [List.jL,List.drop_take])
  (fun v H1 ⟨Z,hH⟩=>by subst Z hH;exact k)
end
end E
namespace Dg
variable {k:Nat}{s:bv}{x:ap}
def OR(h:s.length=8):E.dm s=[.int .u32 (s.getD 0 0),.int .u32 (s.getD 1 0),.int .u32 (s.getD 2 0),.int .u32 (s.getD 3 0),.int .u32 (s.getD 4 0),.int .u32 (s.getD 5 0),.int .u32 (s.getD 6 0),.int .u32 (s.getD 7 0)]:=by
 match s,h with
 |[a,b,c,d,e,f,g,i],_=>rfl
def MQ(h:s.length=8):s=[s.getD 0 0,s.getD 1 0,s.getD 2 0,s.getD 3 0,s.getD 4 0,s.getD 5 0,s.getD 6 0,s.getD 7 0]:=by
 match s,h with
 |[a,b,c,d,e,f,g,i],_=>rfl
def gB(st:bv)(l:ap):Nat->bv
 |0=>st
 |k+1=>cmp (gB st l k) ((l.drop (64*k)).take 64)
theorem pX{st:bv}{l:ap}(h:st.length=8):∀k,(gB st l k).length=8:=by
 intro k;induction k with
 |zero=>exact h
 |succ k I=>exact yZ I
def bs(n:Int)(s k:Nat):ap:=(List.range k).map fun(i:Nat)=>Cf.eo (n/256^(s-1-i))
theorem sL(n:Int)(s k:Nat):bs n s (k+1)=bs n s k++[Cf.eo (n/256^(s-1-k))]:=by
 grind [bs,List.range_succ]
@[simp] theorem eS (n:Int) (s k:Nat):(bs n s k).length=k:=by simp[bs]
def PF(n:Int){s:Nat}(h:k<s)(hs:s<=8):IntKind.u8.wrap (n/2^min (8*((s:Int)-1-(k:Int))).toNat IntKind.u64.bits)=((Cf.eo (n/256^(s-1-k))).toNat:Int):=by
 grind [IntKind.bits,Cf.Ml,Cf.jH]
def start:bv:=[1779033703,3144134277,1013904242,2773480762,1359893119,2600822924,528734635,1541459225]
def zc(n:Nat):Nat:=(119-n)%64
def zj(r:ap)(len:Int):ap:=r++[128]++List.replicate (zc r.length) 0++bs (8*len) 8 8
def words(s:bv)(k:Nat):ap:=(s.take k).flatMap fun x=>bs (IntKind.u64.wrap x) 4 4
theorem uL(h:k<s.length):words s (k+1)=words s k++bs (IntKind.u64.wrap (s.getD k 0)) 4 4:=by
 grind [words,List.take_add_one]
theorem qO(s:bv):∀k,k<=s.length->(words s k).length=4*k:=by
 intro k;induction k with
 |zero=>intro _;rfl
 |succ k I=>intro h;grind [uL,eS]
def fin(s:bv)(r:ap)(len:Int):ap:=words (gB s (zj r len) ((zj r len).length/64)) 8
def sum(l:ap):ap:=fin (gB start l (l.length/64)) (l.drop (64*(l.length/64))) l.length
def qm(h:s.length=8)(r:ap)(len:Int):(fin s r len).length=32:=by
 grind [pX,fin,qO]
@[simp] theorem gh (l:ap):(sum l).length=32:=qm (pX (by rfl) _) _ _
def masked(key:ap)(c:UInt8):ap:=(key++List.replicate (64-key.length) 0).map (·^^^c)
def tag(key b:ap):ap:=sum (masked key 92++sum (masked key 54++b))
def Ae(x:ap)(m:UInt8)(k:Nat):ap:=(x.take k).map (·^^^m)++x.drop k
def TF(x:ap)(m:UInt8)(k:Nat):(Ae x m k).length=x.length:=by simp[Ae];omega
def QE(x:ap)(m:UInt8):Ae x m 0=x:=by simp[Ae]
def SN{m:UInt8}(h:k=x.length):Ae x m k=x.map (·^^^m):=by subst h;simp[Ae]
def P8{m:UInt8}(h:k<x.length):Ae x m (k+1)=(Ae x m k).set k ((Ae x m k).getD k 0^^^m):=by
 have hl:((x.take k).map (·^^^m)).length=k:=by simp;omega
 have hg:(Ae x m k).getD k 0=x.getD k 0:=by
  grind [Ae]
 rw[hg];have I:x.drop k=x[k]::x.drop (k+1):=List.drop_eq_getElem_cons h;unfold Ae;rw[oo _ _ K1,hl,oD,I,oB,jS,aC h,Option.toList_some,dZ,aQ,aW,aC h,dW];rfl
def n9(key:ap)(m:UInt8)(h:key.length<=64):(masked key m).length=64:=by simp[masked];omega
end Dg
namespace Gw
def Mt.z:Mt:=⟨0,0,false⟩
def Mt.cs(m:Mt):bi:=[.int .u8 m.role,.int .u64 m.exp,.bool m.rev]
def Mt.fx:E.Fx Mt.cs 3:=⟨fun _=>rfl,fun x u I=>by simp[Mt.cs] at I;rcases I with rfl|rfl|rfl<;>rfl,K1⟩
def Tk.cs(t:Tk):bi:=.int .u8 t.tn:: .int .u8 t.role:: .int .u64 t.exp:: .int .u32 t.dM::E.aA t.tag
def Tk.v(t:Tk):Value:=.agg t.cs.toArray
def Tk.one(t:Tk):t.cs.all (·.oneCell')=true:=by
 simp only[Tk.cs,List.all_cons,ay];exact⟨rfl,rfl,rfl,rfl,E.mJ _⟩
def Tk.len(t:Tk)(h:t.tag.length=32):t.cs.length=36:=by simp[Tk.cs,h]
theorem G1:∀{a b:ap},E.aA a=E.aA b->a=b:=by
 intro a;induction a with
 |nil=>intro b h;cases b with
  |nil=>rfl
  |cons y s=>simp[E.aA] at h
 |cons x r I=>intro b h;cases b with
  |nil=>simp[E.aA] at h
  |cons y s=>
   simp only[E.aA,jj,List.cons.injEq,Value.int.injEq,true_and] at h;have M:x=y:=UInt8.toNat_inj.1 K1;rw[M,I h.2]
def Tk.inj{s t:Tk}:s=t↔s.v=t.v:=by
 constructor
 ·intro h;rw[h]
 intro h;obtain⟨a,b,c,d,e⟩:=s;obtain⟨I,b',c',M,Q⟩:=t;grind [v,cs,G1]
end Gw
namespace Au
open Gw
def VL(m:Mt):Bool:=decide (1<=m.role)&&(decide (m.role<=3)&&decide (m.exp<=4611686018427387904))
def check(l:List Mt):Int:=if 32<l.length then 4 else if l.all VL then 0 else 8
def Lh{l:List Mt}(h:32<l.length):check l=4:=aa h
def I1{l:List Mt}(h:¬32<l.length){k:Nat}(hk:k<l.length)(I:VL (l.getD k Mt.z)=false):check l=8:=by
 grind [check]
def mn{l:List Mt}(h:¬32<l.length)(ha:∀k,k<l.length->VL (l.getD k Mt.z)=true):check l=0:=by
 grind [check,List.getElem_of_mem]
theorem nq{l:List Mt}(h:check l=0):l.length<=32:=by
 unfold check at h;omega
def acE(role aG now:Int):Bool:=decide (role<1)||(decide (3<role)||(decide (aG=0)||(decide (4611686018427387904<aG)||decide (4611686018427387904<now))))
def fO(aG now:Int):Int:=if 4611686018427387904<IntKind.u64.wrap (now+aG) then 4611686018427387904 else IntKind.u64.wrap (now+aG)
def fM(l:List Mt)(role aG now:Int):List Mt×Int×Int:=
 if check l=0 then(if acE role aG now then([],0,2) else if l.length=32 then([],0,9) else(l++[⟨role,fO aG now,false⟩],IntKind.u32.wrap ((l.length+1:Nat):Int),0))
 else([],0,check l)
def wE{l:List Mt}{role aG now:Int}(h:(fM l role aG now).2.2=0):fM l role aG now=(l++[⟨role,fO aG now,false⟩],IntKind.u32.wrap ((l.length+1:Nat):Int),0)/\l.length<=31:=by
 grind [fM,nq]
def ux(aG now:Int):0<=fO aG now/\fO aG now<18446744073709551616:=by
 have h:=Dg.uM (now+aG);unfold fO;split<;>omega
def ff{n:Int}(h:0<=n/\n<4294967296):IntKind.u32.wrap n=n:=by
 grind [IntKind.wrap,IntKind.signed,IntKind.bits]
def entry(l:List Mt)(dM:Int):Mt×Bool:=if dM=0\/(l.length:Int)<dM then(Mt.z,false) else(l.getD (dM-1).toNat Mt.z,true)
def WS{l:List Mt}(h:check l=0){x:Mt}(I:x∈l):VL x=true:=by
 grind [check]
def EP{l:List Mt}(h:check l=0)(dM:Int):0<=(entry l dM).1.role/\(entry l dM).1.role<256:=by
 unfold entry;split
 ·exact⟨by decide,by decide⟩
 rename_i hs;show 0<=(l.getD (dM-1).toNat Mt.z).role/\(l.getD (dM-1).toNat Mt.z).role<256;by_cases hl:(dM-1).toNat<l.length
 ·have I:l.getD (dM-1).toNat Mt.z∈l:=by simp_all
  have:=WS h I;grind [VL]
 rw[aW,fH K1];exact⟨by decide,by decide⟩
def bT(l:List Mt)(dM:Int):List Mt×Int:=
 if check l=0 then(if(entry l dM).2=true then(if(entry l dM).1.rev=true then([],192) else(l.set (dM-1).toNat ⟨(entry l dM).1.role,(entry l dM).1.exp,true⟩,0)) else([],191)) else([],check l)
def perms:List (ap):=[[],[3,4,5],[3,4,5,1,2],[3,4,5,1,2,6]]
def permits(role I:Int):Bool:=decide (role<4)&&decide (0<=Fl.idx (fun y:UInt8=>decide (I=(y.toNat:Int))) (perms.getD role.toNat []))
def keyed(key:ap):Bool:=decide (1<=key.length)&&decide (key.length<=64)
def enc(t:Tk):ap:=[Cf.eo t.tn,Cf.eo t.role]++Cf.be t.exp 8++Dg.bs t.dM 4 4++t.tag
def sign(key:ap)(t:Tk):Tk:={t with tag:=Dg.tag key ((enc t).take 14)}
structure fit(t:Tk):Prop where
 tn:0<=t.tn/\t.tn<256
 role:0<=t.role/\t.role<256
 exp:0<=t.exp/\t.exp<18446744073709551616
 dM:0<=t.dM/\t.dM<4294967296
 tag:t.tag.length=32
variable {key:ap}
def qt{t:Tk}(h:fit t):fit (sign key t):=⟨h.tn,h.role,h.exp,h.dM,Dg.gh _⟩
def bY(b:UInt8):(Lit.int .u8 (b.toNat:Int)).wf=true:=by
 grind [UInt8.toNat_lt,Lit.wf,IntKind.min,IntKind.max,IntKind.signed,IntKind.bits]
def Rr{n:Int}(h:0<=n/\n<256):(Lit.int .u8 n).wf=true:=by grind [Lit.wf,IntKind.min,IntKind.max,IntKind.signed,IntKind.bits]
def Wx{n:Int}(h:0<=n/\n<4294967296):(Lit.int .u32 n).wf=true:=by grind [Lit.wf,IntKind.min,IntKind.max,IntKind.signed,IntKind.bits]
def Y1{n:Int}(h:0<=n/\n<18446744073709551616):(Lit.int .u64 n).wf=true:=by grind [Lit.wf,IntKind.min,IntKind.max,IntKind.signed,IntKind.bits]
theorem l9(n:Int)(k:Nat):(Cf.be n k).length=k:=by simp[Cf.be]
theorem jP{t:Tk}(h:fit t):(enc t).length=46:=by
 have:=l9 t.exp 8;simp[enc,h.tag,this]
def ym(key:ap)(t:Tk):Bool:=decide (sign key t=t)
def dec(b:ap):Tk:=⟨((b.getD 0 0).toNat:Int),((b.getD 1 0).toNat:Int),Cf.aO ((b.drop 2).take 8),Dg.v7 (Cf.aO ((b.drop 10).take 4)),b.drop 14⟩
def qv{b:ap}(h:b.length=46):fit (dec b):=by
 have I:=(b.getD 0 0).toNat_lt;have M:=(b.getD 1 0).toNat_lt;refine⟨⟨by show(0:Int)<=((b.getD 0 0).toNat:Int);omega,by show((b.getD 0 0).toNat:Int)<256;omega⟩,⟨by show(0:Int)<=((b.getD 1 0).toNat:Int);omega,by show((b.getD 1 0).toNat:Int)<256;omega⟩,Cf.wS (by grind),Dg.zq _,by show(b.drop 14).length=32;grind⟩
def yQ{l:ap}(h:l.length=32):E.aA l=[.int .u8 ((l.getD 0 0).toNat:Int),.int .u8 ((l.getD 1 0).toNat:Int),.int .u8 ((l.getD 2 0).toNat:Int),.int .u8 ((l.getD 3 0).toNat:Int),.int .u8 ((l.getD 4 0).toNat:Int),.int .u8 ((l.getD 5 0).toNat:Int),.int .u8 ((l.getD 6 0).toNat:Int),.int .u8 ((l.getD 7 0).toNat:Int),.int .u8 ((l.getD 8 0).toNat:Int),.int .u8 ((l.getD 9 0).toNat:Int),.int .u8 ((l.getD 10 0).toNat:Int),.int .u8 ((l.getD 11 0).toNat:Int),.int .u8 ((l.getD 12 0).toNat:Int),.int .u8 ((l.getD 13 0).toNat:Int),.int .u8 ((l.getD 14 0).toNat:Int),.int .u8 ((l.getD 15 0).toNat:Int),.int .u8 ((l.getD 16 0).toNat:Int),.int .u8 ((l.getD 17 0).toNat:Int),.int .u8 ((l.getD 18 0).toNat:Int),.int .u8 ((l.getD 19 0).toNat:Int),.int .u8 ((l.getD 20 0).toNat:Int),.int .u8 ((l.getD 21 0).toNat:Int),.int .u8 ((l.getD 22 0).toNat:Int),.int .u8 ((l.getD 23 0).toNat:Int),.int .u8 ((l.getD 24 0).toNat:Int),.int .u8 ((l.getD 25 0).toNat:Int),.int .u8 ((l.getD 26 0).toNat:Int),.int .u8 ((l.getD 27 0).toNat:Int),.int .u8 ((l.getD 28 0).toNat:Int),.int .u8 ((l.getD 29 0).toNat:Int),.int .u8 ((l.getD 30 0).toNat:Int),.int .u8 ((l.getD 31 0).toNat:Int)]:=by
 match l,h with
 |[b0,b1,b2,b3,b4,b5,b6,b7,b8,b9,GZ,Gz,Hu,HY,Gb,Ic,Iq,HE,HN,HC,G4,I,M,Q,Z,b25,b26,b27,b28,b29,b30,b31],_=>rfl
def qH:keyed key=true↔1<=key.length/\key.length<=64:=by simp[keyed]
def fX(t:Int):Bool:=decide (0<=t)&&decide (t<3)
def bX(l:List Mt)(key:ap)(tn role aG now:Int):List Mt×Tk×Int:=
 if((fM l role aG now).2.2=0\/(fM l role aG now).2.2=9)/\(fX tn&&keyed key)=false then([],Tk.z,2)
 else if(fM l role aG now).2.2=0 then((fM l role aG now).1,sign key ⟨tn,role,fO aG now,(fM l role aG now).2.1,z32⟩,0)
 else([],Tk.z,(fM l role aG now).2.2)
end Au
namespace E
section
variable{o:Oper}
theorem PV.min{x y:Operand}{t I:TypeId}{k:IntKind}{p q:Int}(ho:o.op=.call {callee:=.builtin .min,args:= #[x,y],argTypes:= #[t,I]})(M:ev l x=some (.int k p))(Q:ev l y=some (.int k q)):
  PV P n w0 F l H o (.int k (if q<p then q else p)):=fun a w ha _=>by
 simp[execOp,ho,resolve,invoke,builtin,ha.ev M,ha.ev Q,run_min_int2]
end
section
variable{o:Oper}
variable {B T i:Nat}{H':List HP}{x:Operand}
def HA.Qx{w:World}(h:HA w0 F H w){p:Nat}{cs:bi}(hi:E.sel H i=some (HP.aw B T cs,H')):Rd w (Old w) (some ⟨B,p,.none⟩) (cs.drop p):=fun I=>by
 have M:=h.aw hi
 obtain⟨ad,Q,Z,h3⟩:=h.dq hi (by grind)
 grind [Addr.add]
def HA.aaR{w:World}(h:HA w0 F H w){t:Gw.Tk}(hi:E.sel H i=some (HP.aw B T t.cs,H')):Rd w (Old w) (some ⟨B,4,.none⟩) (aA t.tag):=h.Qx (p:=4) hi
def PV.W0{t:TypeId}{m:Nat}{vs:bi}(I:∀w,HA w0 F H w->Rd w (Old w) (some ⟨B,0,.none⟩) vs)(ht:Is P t m)(M:vs.length=m)(Q:0<m)(ho:o.op=.load t x)(Z:ev l x=some (.pointer (some ⟨B,0,.none⟩))):PV P n w0 F l H o (.agg vs.toArray):=by
 subst M;exact PV.iL (k:=0) I ht Q ho Z (fun i v hv=>by rwa[jt])
def PV.zg{t e bytes len p:Nat}{z:Value}(hT:P.underlying t=some (.array len e))(hI:In P e z 1 bytes)(ho:o.op=.slice t x none none none)(hx:ev l x=some (.pointer (some ⟨B,p,none⟩))):
  PV P n w0 F l H o (.slice (some ⟨B,p,none⟩) len len):=fun a w ha _=>by
 obtain⟨inf,I,hz0,hz1,hz2⟩:=hI.parts
 have M:P.elem t=e:=by simp[Program.elem,hT]
 have Q:P.arrayLen t=len:=by simp[Program.arrayLen,hT]
 have hr:=run_sliceAt_array_all (P:=P) w t ⟨B,p,none⟩ (by rw[M,Q];exact hT)
 rw[M,Q] at hr
 have Z:(⟨B,p,none⟩:Addr).add 0=⟨B,p,none⟩:=by unfold Addr.add;split<;>simp_all
 simp[execOp,ho,ha.ev hx,hr,sizeOf,typeInfo,I,hz1,Result.andThen,slicedAt,Z]
def OW.nF{ops:Array Oper}{I:List Oper}{t:TypeId}{y:Operand}{k:Gw.Tk}{b:ap}(M:∀w,(sizeOf t).run P w=.ok 32 w)(ho:o.op=.store t x y)(hg:gd ops l o.guard=some true)(hd:o.dst=none)(Q:ev l x=some (.pointer (some ⟨B,4,none⟩)))(Z:ev l y=some (.agg (aA b).toArray))(hi:sel H i=some (HP.aw B T k.cs,H'))(hb:b.length=32)(hk:k.tag.length=32)(kk:OW P n w0 F ops K I l (HP.aw B T ({k with tag:=b}:Gw.Tk).cs::H')):OW P n w0 F ops K (o::I) l H:=
 OW.store (vs:=aA b) (by simp_all) ho hg hd Q Z (by simp[Value.cells]) (mJ b) hi (by
  have:=E5 (aA k.tag) (aA b) (by simp[hb,hk])
  simp[Gw.Tk.cs,wr,this]) kk
end
def Wl(B k:Nat):(.pointer (some ⟨B,k,none⟩):Value)=bB (some ⟨B,0,none⟩) k:=by
 have h:(⟨B,0,none⟩:Addr).add k=⟨B,k,none⟩:=by unfold Addr.add;split<;>simp_all
 show _=Value.pointer (some ((⟨B,0,none⟩:Addr).add k));rw[h]
structure Pm(w:World)(G:Nat->Prop)(pm:List Yb):Prop where
 r:Rd w G (some ⟨0,0,none⟩) (fl Yb.cs pm)
 m:∀s∈pm,Rd w G s.A (aA s.l)
 e:pm.map Yb.l=Au.perms
variable {G:Nat->Prop}{pm:List Yb}{w:World}
def Pm.len(h:Pm w G pm):pm.length=4:=by
 have:=aq List.length h.e;simpa[Au.perms] using this
def Pm.at(h:Pm w G pm)(k:Nat):(pm.getD k Yb.z).l=Au.perms.getD k []:=by
 rw[<-h.e,aW,aW,my];cases pm[k]? <;>rfl
def Pm.sm(h:Pm w G pm)(k:Nat):(pm.getD k Yb.z).l.length<=100000:=by
 rw[h.at];match k with
 |0=>decide
 |1=>decide
 |2=>decide
 |3=>decide
 |(k+4)=>simp[Au.perms]
def HA.aam{w0:World}{F:Nat->Prop}{H:List HP}(h:HA w0 F H w)(hp:Pm w0 F pm):Pm w (Old w) pm:=⟨h.rd hp.r,fun s hs=>h.rd (hp.m s hs),hp.e⟩
end E
namespace Au
open Gw
def cnd(l:List Mt)(key:ap)(tn:Int)(t:Tk)(I now:Int):Nat->Bool
 |0=>fX tn&&(decide (1<=I)&&decide (I<=6))
 |1=>decide (now<=4611686018427387904)&&keyed key
 |2=>ym key t
 |3=>decide (t.tn=tn)
 |4=>(entry l t.dM).2&&(decide ((entry l t.dM).1.role=t.role)&&decide ((entry l t.dM).1.exp=t.exp))
 |5=> !(entry l t.dM).1.rev
 |6=>decide (now<(entry l t.dM).1.exp)
 |_=>permits (entry l t.dM).1.role I
def Xt:bv:=[2,2,180,190,191,192,193,194]
def oe(q:Nat->Bool):Nat->Nat->Int
 |_,0=>0
 |i,n+1=>if q i=true then oe q (i+1) n else Xt.getD i 0
def auth(l:List Mt)(key:ap)(tn:Int)(t:Tk)(I now:Int):Int:=if check l=0 then oe (cnd l key tn t I now) 0 8 else check l
variable {q:Nat->Bool}
def sr:∀{k n i:Nat},(∀j,i<=j->j<i+k->q j=true)->oe q i (k+n)=oe q (i+k) n:=by
 intro k;induction k with
 |zero=>grind
 |succ k I=>
  grind [oe]
def vW{k:Nat}(hk:k<8)(h:∀j,j<k->q j=true)(M:q k=false):oe q 0 8=Xt.getD k 0:=by
 have I:=sr (q:=q) (k:=k) (n:=8-k) (i:=0) fun j _ Q=>h j K1;rw[show k+(8-k)=8 by omega,jt] at I
 rw[I,show 8-k=(7-k)+1 by omega]
 show(if q k=true then _ else _)=_
 grind
def JI(h:∀j,j<8->q j=true):oe q 0 8=0:=by
 have I:=sr (q:=q) (k:=8) (n:=0) (i:=0) fun j _ M=>h j K1;rw[Nat.add_zero] at I;rw[I];rfl
end Au
namespace E
structure Cd where
 f:Nat
 aE:Array Value
 e:Int
def Cd.z:Cd:=⟨0, #[],0⟩
def Cd.cs(c:Cd):bi:=[.func (.func c.f) #[] c.aE,.int .i64 c.e]
def Cd.fx:Fx Cd.cs 2:=⟨fun _=>rfl,fun x u I=>by simp[Cd.cs] at I;rcases I with rfl|rfl<;>rfl,K1⟩
end E
namespace E
section
variable{o:Oper}
def HP.ww(B:Nat)(bs:ap):HP where
 bA S w:=∃A c,(HP.dj [HP.aw B 287 [.slice A bs.length c],HP.row 5 1 A bs.length c (aA bs)]).bA S w
 loc:=fun S w w' h ⟨A,c,I⟩=>⟨A,c,(HP.dj _).loc S w w' h I⟩
variable {A:am}{B cc:Nat}{H1 H2:List HP}{bs:ap}
def CW.Qq{c:Code}(i j:Nat)(hi:sel H i=some (HP.aw B 287 [.slice A bs.length cc],H1))(M:sel H1 j=some (HP.row 5 1 A bs.length cc (aA bs),H2))(k:CW P n w0 F c K l (HP.ww B bs::H2)):CW P n w0 F c K l H:=fun a w ha Q=>by
 have I:=Q.perm ((an hi).trans ((an M).cons _))
 refine k a w ha {I with chunks:=?_}
 have Z:=ah.aX (ps:=[HP.aw B 287 [.slice A bs.length cc],HP.row 5 1 A bs.length cc (aA bs)]) (r:=H2) I.chunks
 obtain⟨S,g1,g2,g3⟩:=Z
 exact⟨S,⟨A,cc,g1⟩,g2,g3⟩
def CW.Vn{c:Code}(i:Nat)(hi:sel H i=some (HP.ww B bs,H1))(k:∀A cc,CW P n w0 F c K l (HP.aw B 287 [.slice A bs.length cc]::HP.row 5 1 A bs.length cc (aA bs)::H1)):CW P n w0 F c K l H:=fun a w ha M=>by
 have I:=M.sel hi
 obtain⟨S,⟨A,cc,Q⟩,Z,g3⟩:=I.chunks
 exact k A cc a w ha {I with chunks:=ah.open (ps:=[HP.aw B 287 [.slice A bs.length cc],HP.row 5 1 A bs.length cc (aA bs)]) ⟨S,Q,Z,g3⟩}
def OW.Qq{ops:Array Oper}{I:List Oper}(i j:Nat)(hi:sel H i=some (HP.aw B 287 [.slice A bs.length cc],H1))(Q:sel H1 j=some (HP.row 5 1 A bs.length cc (aA bs),H2))(k:OW P n w0 F ops K I l (HP.ww B bs::H2)):OW P n w0 F ops K I l H:=fun a w ha Z=>by
 have M:=Z.perm ((an hi).trans ((an Q).cons _))
 refine k a w ha {M with chunks:=?_}
 obtain⟨S,g1,g2,g3⟩:=ah.aX (ps:=[HP.aw B 287 [.slice A bs.length cc],HP.row 5 1 A bs.length cc (aA bs)]) (r:=H2) M.chunks
 exact⟨S,⟨A,cc,g1⟩,g2,g3⟩
def PV.adW{t Et bytes m c hi:Nat}{x q:Operand}{z:Value}(hT:P.underlying t=some (.slice Et))(hI:In P Et z 1 bytes)(ho:o.op=.slice t x none (some q) none)(hx:ev l x=some (.slice A m c))(hq:ev l q=some (.int .i64 (hi:Int)))(h2:hi<=c):PV P n w0 F l H o (.slice (fu A c 0) hi c):=fun a w ha _=>by
 obtain⟨inf,I,hz0,Z,hz2⟩:=hI.parts
 have M:P.elem t=Et:=by simp[Program.elem,hT]
 have Q:P.underlying t=some (.slice (P.elem t)):=by rw[M];exact hT
 have hr:=run_slice_h (P:=P) w t A m c Q .i64 (hi:Int) K1 K1
 rw[M] at hr
 have hsa:=run_sliceAt_slice (P:=P) w t (.slice A m c) none (some (.int .i64 (hi:Int))) none Q
 simp[execOp,ho,ha.ev hx,ha.ev hq,hsa,hr,sizeOf,typeInfo,I,Z,Result.andThen,sliced,fu]
def JS(ys:List Yb):Mem:=ys.map fun y=>(y.A,aA y.l)
def KD(ys:List Yb)(y:Yb):JS (ys++[y])⊆[(y.A,aA y.l)]++(JS ys++[]):=fun p hp=>by
 grind [JS]
def GB(i j:Nat)(hi:sel H i=some (HP.aw B 287 [.slice A bs.length cc],H1))(I:sel H1 j=some (HP.row 5 1 A bs.length cc (aA bs),H2)):∀w U,ah w U H->ah w U (HP.ww B bs::H2):=fun w U h=>by
 have M:=h.perm ((an hi).trans ((an I).cons _))
 obtain⟨S,Q,Z,g3⟩:=ah.aX (ps:=[HP.aw B 287 [.slice A bs.length cc],HP.row 5 1 A bs.length cc (aA bs)]) (r:=H2) M
 exact⟨S,⟨A,cc,Q⟩,Z,g3⟩
def early:List PanicEntry:=[{v:=.iface 146 (.agg #[]),recovered:=false}]
end
end E
namespace Gw
def Rc.z:Rc:=⟨0,0,0,z32⟩
def Rc.cs(r:Rc):bi:=.int .u64 r.tk:: .int .u8 r.kd:: .int .i64 r.cd::E.aA r.lk
def Rc.v(r:Rc):Value:=.agg r.cs.toArray
def Rc.len(r:Rc)(h:r.lk.length=32):r.cs.length=35:=by simp[Rc.cs,h]
end Gw
namespace Wi
open Gw
def rH(n most:Int):Bool:=decide (0<=n)&&decide (n<=most)
def qF(r:Rc):Bool:=decide (r.tk<=4611686018427387904)&&(decide (r.kd<=6)&&rH r.cd 65535)
def mM(out:ap):ap:=[Cf.eo (((out.length+2:Nat):Int)/2^min (8:Int).toNat IntKind.i64.bits),Cf.eo ((out.length+2:Nat):Int)]++out
def tK(b:ap):Int:=IntKind.i64.wrap ((BitVec.ofInt IntKind.i64.bits (IntKind.i64.wrap (((b.getD 0 0).toNat:Int)*2^min (8:Int).toNat IntKind.i64.bits))|||BitVec.ofInt IntKind.i64.bits ((b.getD 1 0).toNat:Int)).toNat:Nat)
def ct(b:ap):Int:=if tK b<2\/64<tK b then 2 else tK b
def idx{α:Type}(q:α->Bool)(l:List α):Int:=match l.findIdx? q with|some i=>(i:Int)|none=> -1
variable {b:ap}{k:Nat}
def iJ{α:Type}{q:α->Bool}{l:List α}{z:α}(hk:k<l.length)(I:∀j,j<k->q (l.getD j z)=false)(M:q (l.getD k z)=true):idx q l=k:=by
 unfold idx
 have:l.findIdx? q=some k:=by
  grind [List.findIdx?_eq_some_iff_getElem]
 rw[this]
def iK{α:Type}{q:α->Bool}{l:List α}{z:α}(h:∀j,j<l.length->q (l.getD j z)=false):idx q l= -1:=by
 grind [idx,List.getElem_of_mem]
def xH(I M:Int):Bool:=if I=0 then !decide (M=0) else if I=16 then decide (M=0) else if I=17 then decide (M=280) else decide (I<=6)||decide (I=18)
def Xe(s:Sg):Bool:= !rH s.pl 63||(decide (8<s.st)|| !rH s.od 64)
def F1(l:List Sg)(q:Int):Bool:=decide (l.length<=3)&&(!decide (0<=idx Xe l)&&rH q 8)
def yL(s:Sg):ap:=Dg.bs (IntKind.u64.wrap s.pl) 1 1++Dg.bs (IntKind.u64.wrap s.st) 1 1++Dg.bs (IntKind.u64.wrap s.od) 2 2
def vV(rs:List Sg)(k:Nat):ap:=(rs.take k).flatMap yL
theorem wR{rs:List Sg}(h:k<rs.length):vV rs (k+1)=vV rs k++yL (rs.getD k Sg.z):=by
 grind [vV,List.take_add_one]
theorem SS(s:Sg):(yL s).length=4:=by simp[yL]
def C4(rs:List Sg):∀k,k<=rs.length->(vV rs k).length=4*k:=by
 intro k;induction k with
 |zero=>intro _;rfl
 |succ k I=>intro h;grind [wR,SS]
def tP(rs:List Sg)(q:Int):ap:=Dg.bs (rs.length:Int) 1 1++vV rs rs.length++Dg.bs (IntKind.u64.wrap q) 1 1
def sp:Nat->ap->List (ap)×ap
 |0,b=>([],b)
 |k+1,b=>if b.length<2\/(b.length:Int)<ct b then([],b) else(b.take (ct b).toNat::(sp k (b.drop (ct b).toNat)).1,(sp k (b.drop (ct b).toNat)).2)
def split(b:ap):List (ap)×ap×Int:=if 4160<b.length then([],[],4) else((sp b.length b).1,(sp b.length b).2,0)
def Rh(h:b.length<2\/(b.length:Int)<ct b):∀k,sp k b=([],b):=by
 intro k;cases k with
 |zero=>rfl
 |succ k=>exact aa h
def UD{n:Nat}(I:¬b.length<2)(M:¬(b.length:Int)<ct b)(Q:(n:Int)=ct b):sp (k+1) b=(b.take n::(sp k (b.drop n)).1,(sp k (b.drop n)).2):=by
 grind [sp]
end Wi
namespace E
def xv(l:ap):bi:=[.int .u8 ((l.getD 0 0).toNat:Int),.int .u8 ((l.getD 1 0).toNat:Int),.int .u8 ((l.getD 2 0).toNat:Int),.int .u8 ((l.getD 3 0).toNat:Int),.int .u8 ((l.getD 4 0).toNat:Int),.int .u8 ((l.getD 5 0).toNat:Int),.int .u8 ((l.getD 6 0).toNat:Int),.int .u8 ((l.getD 7 0).toNat:Int),.int .u8 ((l.getD 8 0).toNat:Int),.int .u8 ((l.getD 9 0).toNat:Int),.int .u8 ((l.getD 10 0).toNat:Int),.int .u8 ((l.getD 11 0).toNat:Int),.int .u8 ((l.getD 12 0).toNat:Int),.int .u8 ((l.getD 13 0).toNat:Int),.int .u8 ((l.getD 14 0).toNat:Int),.int .u8 ((l.getD 15 0).toNat:Int),.int .u8 ((l.getD 16 0).toNat:Int),.int .u8 ((l.getD 17 0).toNat:Int),.int .u8 ((l.getD 18 0).toNat:Int),.int .u8 ((l.getD 19 0).toNat:Int),.int .u8 ((l.getD 20 0).toNat:Int),.int .u8 ((l.getD 21 0).toNat:Int),.int .u8 ((l.getD 22 0).toNat:Int),.int .u8 ((l.getD 23 0).toNat:Int),.int .u8 ((l.getD 24 0).toNat:Int),.int .u8 ((l.getD 25 0).toNat:Int),.int .u8 ((l.getD 26 0).toNat:Int),.int .u8 ((l.getD 27 0).toNat:Int),.int .u8 ((l.getD 28 0).toNat:Int),.int .u8 ((l.getD 29 0).toNat:Int),.int .u8 ((l.getD 30 0).toNat:Int),.int .u8 ((l.getD 31 0).toNat:Int)]
def mD{l:ap}(h:l.length=32):aA l=xv l:=Au.yQ h
theorem yG{a b:ap}(ha:a.length=32)(I:b.length=32)(h:xv a=xv b):a=b:=Gw.G1 (by rw[mD ha,mD I,h])
end E
namespace Gw
def Rc.cw(r:Rc):bi:=.int .u64 r.tk:: .int .u8 r.kd:: .int .i64 r.cd::E.xv r.lk
def Rc.fx:E.Fx Rc.cw 35:=⟨fun _=>rfl,fun x u I=>aJ.1 (show(Rc.cw x).all (·.oneCell')=true from rfl) u I,K1⟩
def Rc.pf{r:Rc}(h:r.lk.length=32):r.cs=r.cw:=by unfold Rc.cs Rc.cw;rw[E.mD h]
def Tk.cw(t:Tk):bi:=.int .u8 t.tn:: .int .u8 t.role:: .int .u64 t.exp:: .int .u32 t.dM::E.xv t.tag
def Tk.pf{t:Tk}(h:t.tag.length=32):t.cs=t.cw:=by unfold Tk.cs Tk.cw;rw[E.mD h]
structure Rc.fit(r:Rc):Prop where
 tk:0<=r.tk/\r.tk<18446744073709551616
 kd:0<=r.kd/\r.kd<256
 cd:E.gE r.cd
 lk:r.lk.length=32
structure Lg.fit(g:Lg):Prop where
 dF:0<=g.dF/\g.dF<4294967296
 lk:g.lk.length=32
 rs:∀r∈g.rs,r.fit
 len:g.rs.length<=100000
def Rq.z:Rq:=⟨0,Tk.z,0,0,0⟩
def Rq.cw(q:Rq):bi:=.int .u8 q.kd::(q.tok.cw++[.int .u8 q.pick,.int .u8 q.drop,.int .u32 q.num])
structure Rq.fit(q:Rq):Prop where
 kd:0<=q.kd/\q.kd<256
 tok:Au.fit q.tok
 pick:0<=q.pick/\q.pick<256
 drop:0<=q.drop/\q.drop<256
 num:0<=q.num/\q.num<4294967296
structure Sg.fit(s:Sg):Prop where
 pl:E.gE s.pl
 st:0<=s.st/\s.st<256
 od:E.gE s.od
structure Rp.fit(r:Rp):Prop where
 tok:Au.fit r.tok
 jb:∀s∈r.jb,s.fit
 kS:∀s∈r.kS,s.fit
 rl:r.jb.length<=1000
 cl:r.kS.length<=1000
end Gw
namespace E
structure Lw where
 g:Gw.Lg
 A:am
 c:Nat
def Lw.cells(x:Lw):bi:=.int .u32 x.g.dF::(xv x.g.lk++[.slice x.A x.g.rs.length x.c])
def Lw.v(x:Lw):Value:=.agg x.cells.toArray
structure Rw where
 r:Gw.Rp
 A:am
 c:Nat
 A2:am
 c2:Nat
def Rw.cells(x:Rw):bi:=[.int .u8 x.r.kd,.int .i64 x.r.cd,.int .u64 x.r.tk,.int .i64 x.r.od,.int .u8 x.r.st,.int .u64 x.r.dn,.slice x.A x.r.jb.length x.c,.int .i64 x.r.qd,.int .u32 x.r.dF,.slice x.A2 x.r.kS.length x.c2]++x.r.tok.cw
def Rw.v(x:Rw):Value:=.agg x.cells.toArray
def Rw.mem(x:Rw):Mem:=[(x.A,fl Gw.Sg.cs x.r.jb),(x.A2,fl Gw.Rc.cw x.r.kS)]
end E
namespace Wi
open Gw
def qC(rs:List Rc):Bool:=decide (rs.length<=32)&& !decide (0<=idx (fun r=> !qF r) rs)
def yb(r:Rc):ap:=Dg.bs r.tk 8 8++Dg.bs (IntKind.u64.wrap r.kd) 1 1++Dg.bs (IntKind.u64.wrap r.cd) 2 2++r.lk
def wc(rs:List Rc)(k:Nat):ap:=(rs.take k).flatMap yb
variable {g:Lg}{rs:List Rc}
def qV{k:Nat}(h:k<rs.length):wc rs (k+1)=wc rs k++yb (rs.getD k Rc.z):=by
 grind [wc,List.take_add_one]
def Uc{r:Rc}(h:r.lk.length=32):(yb r).length=43:=by simp[yb,h]
def mQ{k:Nat}(h:k<rs.length):rs.getD k Rc.z∈rs:=by
 grind
def As(rs:List Rc)(h:∀r∈rs,r.fit):∀k,k<=rs.length->(wc rs k).length=43*k:=by
 intro k;induction k with
 |zero=>intro _;rfl
 |succ k I=>
  intro hk;rw[qV K1,aF,I K1,Uc (h _ (mQ (show k<rs.length by omega))).lk]
  omega
def vY(n:Int)(rs:List Rc):ap:=Dg.bs (IntKind.u64.wrap n) 4 4++Dg.bs (rs.length:Int) 1 1++wc rs rs.length
def kf(rs:List Rc):ap:=if 0<rs.length then(rs.getD (rs.length-1) Rc.z).lk else z32
def pQ(g:Lg):Int:=if((g.rs.length:Int)=min g.dF 32/\qC g.rs=true)/\g.lk=kf g.rs then 0 else 8
def uk(h:pQ g=0):(g.rs.length:Int)=min g.dF 32:=by
 grind [pQ]
def VN(h:¬(g.rs.length:Int)=min g.dF 32\/qC g.rs=false):pQ g=8:=ae (by grind)
def Q6(h:¬g.lk=kf g.rs):pQ g=8:=ae fun I=>h I.2
def On(I:(g.rs.length:Int)=min g.dF 32)(M:qC g.rs=true)(Q:g.lk=kf g.rs):pQ g=0:=aa ⟨⟨I,M⟩,Q⟩
def last_pos(h:0<rs.length):kf rs=(rs.getD (rs.length-1) Rc.z).lk:=aa h
def last_zero(h:¬0<rs.length):kf rs=z32:=ae h
def Q5(I:g.fit):(kf g.rs).length=32:=by
 by_cases h:0<g.rs.length
 ·rw[last_pos h];exact(I.rs _ (mQ K1)).lk
 rw[last_zero h];rfl
def link(I:ap)(tk kd cd:Int)(b:ap):ap×Int:=
 if qF ⟨tk,kd,cd,z32⟩=true then(if 64<b.length then(z32,4) else(Dg.sum (I++Dg.bs tk 8 8++Dg.bs (IntKind.u64.wrap kd) 1 1++Dg.bs (IntKind.u64.wrap cd) 2 2++Dg.sum b),0)) else(z32,2)
def Di(I:ap)(tk kd cd:Int)(b:ap):(link I tk kd cd b).1.length=32:=by
 unfold link;split
 ·split
  ·rfl
  exact Dg.gh _
 rfl
def app(g:Lg)(tk kd cd:Int)(b:ap):Lg×Int:=
 if pQ g=0 then
  (if(link g.lk tk kd cd b).2=0 then
   (if g.dF=4294967295 then(Lg.z,9) else(⟨g.dF+1,(link g.lk tk kd cd b).1,g.rs.drop (g.rs.length-31)++[⟨tk,kd,cd,(link g.lk tk kd cd b).1⟩]⟩,0))
  else(Lg.z,(link g.lk tk kd cd b).2))
 else(Lg.z,pQ g)
def since(g:Lg)(first:Int):List Rc×Int:=
 if pQ g=0 then(g.rs.drop (min (max first (g.dF-g.rs.length)-(g.dF-g.rs.length)) g.rs.length).toNat,0) else([],pQ g)
def qk(k:Int):Nat:=if k=1 then 1 else if k=2\/k=3 then 2 else if k=5\/k=6 then 3 else 0
def qu(q:Rq):Rq:=match qk q.kd with
 |0=>⟨q.kd,q.tok,0,0,0⟩
 |1=>⟨q.kd,q.tok,q.pick,q.drop,0⟩
 |_=>⟨q.kd,q.tok,0,0,q.num⟩
def zw(q:Rq):Bool:=match qk q.kd with
 |2=>decide (q.num<=65535)
 |_=>true
def Ss(q:Rq):Int:=if((1<=q.kd/\q.kd<=6)/\zw q=true)/\qu q=q then 0 else 8
def rk(b:ap):Int:=IntKind.u8.wrap (Cf.aO ((b.drop 2).take 1))
def sC:Nat->Nat
 |0=>49
 |1=>51
 |2=>51
 |_=>53
def sG(b:ap):Rq:=match qk (rk b) with
 |0=>⟨rk b,Au.dec ((b.drop 3).take 46),0,0,0⟩
 |1=>⟨rk b,Au.dec ((b.drop 3).take 46),IntKind.u8.wrap (Cf.aO ((b.drop 49).take 1)),IntKind.u8.wrap (Cf.aO ((b.drop (49+1)).take 1)),0⟩
 |2=>⟨rk b,Au.dec ((b.drop 3).take 46),0,0,IntKind.u32.wrap (Cf.aO ((b.drop 49).take 2))⟩
 |_=>⟨rk b,Au.dec ((b.drop 3).take 46),0,0,IntKind.u32.wrap (Cf.aO ((b.drop 49).take 4))⟩
def j7(b:ap):Bool:=decide (Cf.aO (b.take 2)=(b.length:Int))&&decide (sC (qk (rk b))=b.length)
def dT(b:ap):Rq×Int:=if b.length<3 then(Rq.z,10) else if j7 b=true/\Ss (sG b)=0 then(sG b,0) else(Rq.z,11)
def bk(r:Rp):Nat:=if r.cd=0 then(if r.kd=1\/r.kd=16 then 1 else if r.kd=3 then 2 else if r.kd=4 then 3 else if r.kd=5 then 4 else if r.kd=18 then 5 else 0) else 0
def su(r:Rp):Rp:=match bk r with
 |0=>⟨r.kd,r.cd,r.tk,0,0,0,[],0,0,[],Tk.z⟩
 |1=>⟨r.kd,r.cd,r.tk,r.od,0,0,[],0,0,[],Tk.z⟩
 |2=>⟨r.kd,r.cd,r.tk,0,r.st,r.dn,[],0,0,[],Tk.z⟩
 |3=>⟨r.kd,r.cd,r.tk,0,0,0,r.jb,r.qd,0,[],Tk.z⟩
 |4=>⟨r.kd,r.cd,r.tk,0,0,0,[],0,r.dF,r.kS,Tk.z⟩
 |_=>⟨r.kd,r.cd,r.tk,0,0,0,[],0,0,[],r.tok⟩
def yM(r:Rp):Bool:=match bk r with
 |1=>rH r.od 65535
 |2=>decide (1<=r.st)&&(decide (r.st<=5)&&decide (r.dn<=4611686018427387904))
 |3=>F1 r.jb r.qd
 |4=>qC r.kS
 |_=>true
def FT(r:Rp):ap:=match bk r with
 |0=>[]
 |1=>Dg.bs (IntKind.u64.wrap r.od) 2 2
 |2=>Dg.bs (IntKind.u64.wrap r.st) 1 1++Dg.bs r.dn 8 8
 |3=>tP r.jb r.qd
 |4=>vY r.dF r.kS
 |_=>Au.enc r.tok
def FU(r:Rp):Int:=if((rH r.cd 65535=true/\xH r.kd r.cd=true)/\(r.tk<=4611686018427387904/\yM r=true))/\r=su r then 0 else 8
def oz(r:Rp):ap:=if FU r=0 then mM (Dg.bs (IntKind.u64.wrap r.kd) 1 1++Dg.bs (IntKind.u64.wrap r.cd) 2 2++Dg.bs r.tk 8 8++FT r) else[]
def ops:Gw.zL:=⟨dT,Au.auth,app,since,Au.bT,Au.bX,oz,split⟩
end Wi
namespace E
section
variable{o:Oper}
def Tf(P:Program)(u t T:Nat)(z:Value):Prop:=∀v w,(Instr.typeAssert (.iface T v) u t true).run P w=.ok (.tuple #[z,.bool false]) w
variable {H':List HP}{d:Nat}{name:String}{ops:Array Oper}{rest:List Oper}{ts:Array TypeId}{u:Value}{vs:bi}{w:World}{x:Operand}{xs:List Operand}
def PV.Ri{u t T:TypeId}{v z:Value}(ht:Tf P u t T z)(ho:o.op=.typeAssert x u t true)(I:ev l x=some (.iface T v)):PV P n w0 F l H o (.tuple #[z,.bool false]):=fun a w ha _=>by
 simp[execOp,ho,ha.ev I,ht v w]
def Mv(P:Program)(u:Value)(name:String)(vs:bi)(f:Nat)(args:bi):Prop:=∀w,(callMethod u name vs.toArray).run P w=.ok (.enter f args.toArray) w
def oy{a:Act}{f:Nat}{args:bi}(I:Mv P u name vs f args)(ho:o.op=.call {callee:=.invoke x name,args:=xs.toArray,argTypes:=ts})(M:a.eval x=u)(Q:xs.map a.eval=vs):(execOp a.eval o).run P w=.ok (.enter f args.toArray) w:=by
 have Z:(#[u]++vs.toArray)[0]? =some u:=by simp
 have e2:(#[u]++vs.toArray).extract 1 (#[u]++vs.toArray).size=vs.toArray:=by simp
 have e3:(xs.toArray.map a.eval)=vs.toArray:=by rw[<-Q];simp
 have h1:(execOp a.eval o)=(callMethod u name vs.toArray):=by
  simp only[execOp,ho,resolve,e3,M,invoke,bind_assoc,pure_bind,Z,e2]
 rw[h1];exact I w
def OW.vC(hg:gd ops l o.guard=some true)(hd:o.dst=some d)(Z:Nat.blt d n.sz=true)(ho:o.op=.call {callee:=.invoke x name,args:=xs.toArray,argTypes:=ts})(hu:ev l x=some u)(hx:evs l xs=some vs)(R:Value->List HP->Prop)(h:∃f args,Mv P u name vs f args/\∀w,HA w0 F H w->Calls P f args.toArray w (bK w (Old w) R))(k:∀v Hn,R v Hn->OW P n w0 F ops K rest ((d,v)::l) (Hn++H)):OW P n w0 F ops K (o::rest) l H:=fun a w ha Q=>by
 obtain⟨f,args,hm,h⟩:=h
 refine wpListIn_step fun K' M=>?_
 rw[aa (ha.wanted hg)]
 refine gP (oy hm ho (ha.ev hu) (ha.evs hx)) ?_
 refine(h w Q).mono fun e w' ⟨v,Hn,he,hR,I⟩=>?_
 refine⟨v,he,?_⟩
 rw[hd]
 exact M _ _ (k v Hn hR _ _ (ha.put Z v) (Q.make I.os I.tape I.output I.size (fun k hk=>I.kept k hk) I.chunks))
def OW.vM(hg:gd ops l o.guard=some true)(hd:o.dst=some d)(hn:Nat.blt d n.sz=true)(ho:o.op=.call {callee:=.invoke x name,args:=xs.toArray,argTypes:=ts})(hu:ev l x=some u)(hx:evs l xs=some vs)(R:Value->List HP->Prop)(i:Nat){p:HP}(hi:E.sel H i=some (p,H'))(h:∃f args,Mv P u name vs f args/\∀w S,HA w0 F (p::H') w->p.bA S w->(∀k,S k->k<w.heap.size/\¬F k)->ah w (fun k=>F k\/S k) H'->Calls P f args.toArray w (bK w (fun k=>k<w.heap.size/\¬S k) R))(k:∀v Hn,R v Hn->OW P n w0 F ops K rest ((d,v)::l) (Hn++H')):OW P n w0 F ops K (o::rest) l H:=fun a w ha hw=>by
 obtain⟨f,args,hm,h⟩:=h
 refine wpListIn_step fun K' M=>?_
 rw[aa (ha.wanted hg)]
 refine gP (oy hm ho (ha.ev hu) (ha.evs hx)) ?_
 have I:=hw.perm (an hi)
 obtain⟨S,h1,Z,h3⟩:=I.chunks
 refine(h w S I h1 Z h3).mono fun e w' ⟨v,Hn,he,hR,Q⟩=>?_
 refine⟨v,he,?_⟩
 rw[hd]
 exact M _ _ (k v Hn hR _ _ (ha.put hn v) (I.turn Z h3 Q))
def OW.tr(hg:gd ops l o.guard=some true)(hd:o.dst=some d)(hn:Nat.blt d n.sz=true)(ho:o.op=.call {callee:=.invoke x name,args:=xs.toArray,argTypes:=ts})(hu:ev l x=some u)(hx:evs l xs=some vs)(R:Value->List HP->Prop)(X:List PanicEntry->List HP->Prop)(i:Nat){p:HP}(hi:E.sel H i=some (p,H'))(h:∃f args,Mv P u name vs f args/\∀w S,HA w0 F (p::H') w->p.bA S w->(∀k,S k->k<w.heap.size/\¬F k)->ah w (fun k=>F k\/S k) H'->Calls P f args.toArray w (db w (fun k=>k<w.heap.size/\¬S k) R X))(hX:∀c Q,X c Q->K (.panic c) l (Q++H'))(k:∀v Hn,R v Hn->OW P n w0 F ops K rest ((d,v)::l) (Hn++H')):OW P n w0 F ops K (o::rest) l H:=fun a w ha hw=>by
 obtain⟨f,args,hm,h⟩:=h
 refine wpListIn_step fun K' hK'=>?_
 rw[aa (ha.wanted hg)]
 refine rN (oy hm ho (ha.ev hu) (ha.evs hx)) ?_
 have I:=hw.perm (an hi)
 obtain⟨S,h1,h2,h3⟩:=I.chunks
 refine(h w S I h1 h2 h3).mono fun e w' Z=>?_
 rcases Z with⟨v,Hn,Z,hR,M⟩|⟨c,Q,Z,hc,M⟩
 ·refine .inl ⟨v,Z,?_⟩
  rw[hd]
  exact hK' _ _ (k v Hn hR _ _ (ha.put hn v) (I.turn h2 h3 M))
 ·exact .inr ⟨c,Z,l,Q++H',ha,I.turn h2 h3 M,hX c Q hc⟩
def PV.Lo{t M:TypeId}{y:Operand}{b:Bool}(I:∀w,(eqGuard .neq t x y u .nilIface).run P w=.ok () w/\(binOp .neq t u .nilIface).run P w=.ok (.bool b) w)(ho:o.op=.binOp .neq t x y M)(Q:ev l x=some u)(Z:ev l y=some .nilIface):
  PV P n w0 F l H o (.bool b):=fun a w ha _=>by
 simp[execOp,ho,ha.ev Q,ha.ev Z,(I w).1,(I w).2]
def HA.aea(h:HA w0 F H w){i B T:Nat}{r:Gw.Rc}(I:r.lk.length=32)(hi:E.sel H i=some (HP.aw B T r.cw,H')):Rd w (Old w) (some ⟨B,3,.none⟩) (aA r.lk):=by
 have:=h.Qx (p:=3) hi;rw[mD I];exact this
def HA.wH(h:HA w0 F H w){i B T:Nat}{l:ap}(I:l.length=32)(hi:E.sel H i=some (HP.aw B T (xv l),H')):Rd w (Old w) (some ⟨B,0,.none⟩) (aA l):=by
 have:=h.Qx (p:=0) hi;rw[mD I];exact this
end
end E
namespace E
def CZ(A:am)(c k sz:Nat):am:=if c=k then A else A.map (·.add (k*sz))
section
variable{o:Oper}
variable {A:am}
def PV.adK{t Et sz bytes m c lo:Nat}{x y:Operand}{z:Value}{k:IntKind}(hT:P.underlying t=some (.slice Et))(hI:In P Et z sz bytes)(ho:o.op=.slice t x (some y) none none)(hx:ev l x=some (.slice A m c))(hy:ev l y=some (.int k (lo:Int)))(h1:lo<=m):PV P n w0 F l H o (.slice (CZ A c lo sz) (m-lo) (c-lo)):=fun a w ha _=>by
 obtain⟨inf,I,hz0,Z,hz2⟩:=hI.parts
 have M:P.elem t=Et:=by simp[Program.elem,hT]
 have Q:P.underlying t=some (.slice (P.elem t)):=by rw[M];exact hT
 have hr:=run_slice_l (P:=P) w t A m c Q k (lo:Int) K1 K1
 rw[M] at hr
 have hsa:=run_sliceAt_slice (P:=P) w t (.slice A m c) (some (.int k (lo:Int))) none none Q
 simp[execOp,ho,ha.ev hx,ha.ev hy,hsa,hr,sizeOf,typeInfo,I,Z,Result.andThen,sliced,CZ]
def PV.adC{t Et sz bytes m c lo hi mx:Nat}{x y q r:Operand}{z:Value}(hT:P.underlying t=some (.slice Et))(hI:In P Et z sz bytes)(ho:o.op=.slice t x (some y) (some q) (some r))(hx:ev l x=some (.slice A m c))(hy:ev l y=some (.int .i64 (lo:Int)))(hq:ev l q=some (.int .i64 (hi:Int)))(Z:ev l r=some (.int .i64 (mx:Int)))(h1:lo<=hi)(h2:hi<=mx)(h3:mx<=c):PV P n w0 F l H o (.slice (CZ A mx lo sz) (hi-lo) (mx-lo)):=fun a w ha _=>by
 obtain⟨inf,I,hz0,hz1,hz2⟩:=hI.parts
 have M:P.elem t=Et:=by simp[Program.elem,hT]
 have Q:P.underlying t=some (.slice (P.elem t)):=by rw[M];exact hT
 have hr:=run_slice_lhm (P:=P) w t A m c Q .i64 .i64 .i64 (lo:Int) (hi:Int) (mx:Int) K1 K1 K1 K1
 rw[M] at hr
 have hsa:=run_sliceAt_slice (P:=P) w t (.slice A m c) (some (.int .i64 (lo:Int))) (some (.int .i64 (hi:Int))) (some (.int .i64 (mx:Int))) Q
 simp[execOp,ho,ha.ev hx,ha.ev hy,ha.ev hq,ha.ev Z,hsa,hr,sizeOf,typeInfo,I,hz1,Result.andThen,sliced,CZ]
end
section
variable{α:Type}{f:α->bi}{sz:Nat}
def Sa(I:Fx f sz):∀(xs:List α) (k:Nat),fl f (xs.drop k)=(fl f xs).drop (k*sz):=by
 intro xs;induction xs with
 |nil=>intro k;simp[fl]
 |cons x xs M=>
  intro k;cases k with
  |zero=>simp
  |succ k=>
   rw[List.drop_succ_cons,M,fl,List.drop_append];have Q:List.drop ((k+1)*sz) (f x)=[]:=List.drop_eq_nil_of_le (by rw[I.len,jw];omega)
   rw[Q,pz,I.len,show(k+1)*sz-sz=k*sz by rw[jw];omega]
def H8(I:Fx f sz){w:World}{G:Nat->Prop}{A:am}{c k:Nat}{xs:List α}(Z:Rd w G A (fl f xs))(hc:xs.length<=c):Rd w G (CZ A c k sz) (fl f (xs.drop k)):=fun hx=>by
 have hp:=I.pos
 have hk:k<xs.length:=by
  grind [List.drop_eq_nil_of_le,fl]
 obtain⟨ad,rfl,hg,M⟩:=Z (by rw[I.ct];exact jG K1 hp)
 refine⟨ad.add (k*sz),by simp[CZ];intro e;omega,by rw[Addr.gq];exact hg,fun j u Q=>?_⟩
 rw[Addr.ku];refine M _ u ?_;rw[Sa I,List.getElem?_drop] at Q;exact Q
end
section
variable{α:Type}{f:α->bi}{sz:Nat}
variable {A:am}
def CW.wh{c:Code}{Et m cc:Nat}{xs:bi}{H':List HP}(i:Nat)(hi:sel H i=some (HP.row Et sz A m cc xs,H'))(k:m<=cc->CW P n w0 F c K l H):CW P n w0 F c K l H:=fun a w ha I=>k (I.gM hi) a w ha I
def OW.L4{ops:Array Oper}{o:Oper}{rest:List Oper}{d:Nat}{s x:Operand}{t Et j bytes cc:Nat}{z:Value}{zs:bi}{A2:am}{xs:List α}{u:α}{H2:List HP}(hf:Fx f sz)(hT:P.underlying t=some (.slice Et))(hI:In P Et z sz bytes)(hz:z.cells=zs.toArray)(hzl:zs.length=sz)(ho:o.op=.call {callee:=.builtin .append,args:= #[s,x],argTypes:= #[t,t]})(hg:gd ops l o.guard=some true)(hd:o.dst=some d)(hn:Nat.blt d n.sz=true)(hs:ev l s=some (.slice A xs.length xs.length))(hx:ev l x=some (.slice A2 1 cc))(hj:sel H j=some (HP.row Et sz A2 1 cc (fl f [u]),H2))(hR:∀w,HA w0 F H w->Rd w (Old w) A (fl f xs))(hb:(xs.length+1)*bytes<=140737488355328)(h63:xs.length+1<=maxLen)(k:∀A' c',OW P n w0 F ops K rest ((d,.slice A' (xs++[u]).length c')::l) (HP.row Et sz A' (xs++[u]).length c' (fl f (xs++[u]))::H2)):OW P n w0 F ops K (o::rest) l H:=by
 refine OW.step hg hd hn (fun v H1=>∃A' c',v=.slice A' (xs++[u]).length c'/\H1=HP.row Et sz A' (xs++[u]).length c' (fl f (xs++[u]))::H2) (fun a w ha hw=>?_) (fun v H1 ⟨A',c',hv,hH⟩=>by grind)
 obtain⟨inf,hinf,hz0,hz1,hz2⟩:=hI.parts;have hzs:z.cells.size=sz:=by rw[hz];simpa using hzl
 have hp:=hf.pos;have hlu:(fl f [u]).length=1*sz:=hf.ct [u];have hla:(xs++[u]).length=xs.length+1:=by simp
 have hfa:fl f (xs++[u])=fl f xs++fl f [u]:=zy;have hw2:HA w0 F H2 w:=(hw.sel hj).drop;obtain⟨ad,hA2,_,hc2⟩:=(hw.bh hj) (by rw[hlu];omega)
 subst hA2;cases A with
 |none=>
  have hx0:xs=[]:=by
   cases xs with
   |nil=>rfl
   |cons x r=>obtain⟨ad',e,_⟩:=hR w hw (by rw[hf.ct];simp_all);cases e
  subst hx0;obtain⟨v',w',Z,I,M,_,hblk⟩:=run_append_own_at (P:=P) w 0 t o.type Et inf z sz bytes hT hinf hz0 hz1 hz2 hzs hp (.slice none 0 0) 0 [] (World.ownsRow_nil w 0 Et sz) ad 1 cc (fl f [u]) hlu hc2 (fun u' hu'=>hf.aaG u' hu') (by simpa using h63) (by simpa using hb) (bF _)
  have Q:∃A' c',v'=.slice A' 1 c':=by
   rcases I.2 with⟨_,hm⟩|⟨g,cap,cur,rfl,_⟩
   ·simp at hm
   exact⟨_,_,rfl⟩
  obtain⟨A',c',rfl⟩:=Q;have hs':ev l s=some (.slice none 0 0):=hs;refine⟨_,w',_,by simp[execOp,ho,resolve,invoke,builtin,ha.ev hs',ha.ev hx,Z],⟨A',c',rfl,rfl⟩,?_⟩
  exact(hw2.bM Et sz).ox M I hblk
 |some b=>
  obtain⟨b0,hb0,_,hcb⟩:∃ad',some b=some ad'/\True/\∀j u,(fl f xs)[j]? =some u->w.cell? (ad'.add j)=some u:=by
   by_cases h0:xs=[]
   ·grind
   obtain⟨ad',e,_,h3⟩:=hR w hw (by grind [Fx.ct,Nat.mul_pos,List.length_pos_iff])
   grind
  cases hb0;obtain⟨v',w',Z,I,M⟩:=run_append_arg_grows (P:=P) w t o.type Et inf z sz bytes hT hinf hz0 hz1 hz2 hzs hp b xs.length xs.length (fl f xs) (hf.ct xs) hcb ad 1 cc (fl f [u]) hlu hc2 K1 h63 hb
  have Q:∃A' c',v'=.slice A' (xs.length+1) c':=by
   rcases I.2 with⟨_,hm⟩|⟨g,cap,cur,rfl,_⟩
   ·omega
   exact⟨_,_,rfl⟩
  obtain⟨A',c',rfl⟩:=Q;rw[hla,hfa];refine⟨_,w',_,by simp[execOp,ho,resolve,invoke,builtin,ha.ev hs,ha.ev hx,Z],⟨A',c',rfl,rfl⟩,?_⟩
  have hown0:w'.ownsRow 0 Et sz (.slice A' (xs.length+1) c') (xs.length+1) (fl f xs++fl f [u]):=by
   refine⟨I.1,I.2.imp id ?_⟩;grind
  refine hw2.make (Hn:=[_]) M.os M.tape M.output M.size (fun k hk=>M.block k hk (by simp)) ⟨fun k=>(Value.slice A' (xs.length+1) c').ownBlock=some k,⟨fun _=>Iff.rfl,hown0⟩,fun k hk=>⟨(I.lt k hk).2,fun h=>?_⟩,trivial⟩
  have:=(I.lt k hk).1;omega
end
end E
end
namespace Gw
def sW{a b:bi}(h:Value.agg a.toArray=Value.agg b.toArray):a=b:=List.toArray_inj (by injection h)
def Sg.inj{s t:Sg}:s=t↔Value.agg s.cs.toArray=Value.agg t.cs.toArray:=by
 constructor
 ·intro h;rw[h]
 intro h;have:=sW h;obtain⟨a,b,c⟩:=s;obtain⟨I,b',c'⟩:=t;grind [cs]
def Rc.inj{s t:Rc}(hs:s.lk.length=32)(ht:t.lk.length=32):s=t↔Value.agg s.cw.toArray=Value.agg t.cw.toArray:=by
 constructor
 ·intro h;rw[h]
 intro h;have:=sW h;obtain⟨a,b,c,d⟩:=s;obtain⟨I,b',c',M⟩:=t;grind [cw,E.yG]
theorem Tk.Vr{s t:Tk}(hs:s.tag.length=32)(ht:t.tag.length=32):s=t↔s.cw=t.cw:=by
 constructor
 ·intro h;rw[h]
 intro this;obtain⟨a,b,c,d,e⟩:=s;obtain⟨I,b',c',M,Q⟩:=t;grind [cw,E.yG]
def Rq.inj{s t:Rq}(hs:s.tok.tag.length=32)(ht:t.tok.tag.length=32):s=t↔Value.agg s.cw.toArray=Value.agg t.cw.toArray:=by
 constructor
 ·intro h;rw[h]
 intro h;have:=sW h;obtain⟨a,b,c,d,e⟩:=s;obtain⟨M,b',c',Q,Z⟩:=t;unfold Rq.cw at this;injection this with I this
 injection I with _ I
 have h2:=List.append_inj this rfl;grind [Tk.Vr]
end Gw
namespace Wi
open Go Gw
def I9{n:Int}(h:E.gE n):(Lit.int .i64 n).wf=true:=by
 grind [E.gE,Lit.wf,IntKind.min,IntKind.max,IntKind.signed,IntKind.bits]
def MB{l:List Sg}{k:Nat}(h:k<l.length):l.getD k Sg.z∈l:=by
 grind
end Wi
namespace E
open Gw
inductive Bd where
 |no
 |pair (p d:Int)
 |short (n:Int)
 |Mo (n:Int)
 |order (n:Int)
 |state (q d:Int)
 |watch (A:am) (c:Nat) (l:List Sg) (q:Int)
 |chain (n:Int) (A:am) (c:Nat) (l:List Rc)
 |tZ (t:Tk)
def Bd.v:Bd->Value
 |.no=>.iface 155 (.agg #[])
 |.pair p d=>.iface 362 (.agg #[.int .u8 p,.int .u8 d])
 |.short n=>.iface 363 (.int .u32 n)
 |.Mo n=>.iface 364 (.int .u32 n)
 |.order n=>.iface 147 (.int .i64 n)
 |.state q d=>.iface 149 (.agg #[.int .u8 q,.int .u64 d])
 |.watch A c l q=>.iface 151 (.agg #[.slice A l.length c,.int .i64 q])
 |.chain n A c l=>.iface 153 (.agg #[.int .u32 n,.slice A l.length c])
 |.tZ t=>.iface 154 (.agg t.cw.toArray)
end E
namespace Wi
open Go Gw
def Fz(q:Rq):E.Bd:=match qk q.kd with
 |0=>.no
 |1=>.pair q.pick q.drop
 |2=>.short q.num
 |_=>.Mo q.num
def X5(kd:Int)(t:Tk):E.Bd->Rq
 |.pair p d=>⟨kd,t,p,d,0⟩
 |.short n=>⟨kd,t,0,0,n⟩
 |.Mo n=>⟨kd,t,0,0,n⟩
 |_=>⟨kd,t,0,0,0⟩
variable {b:ap}{k:Int}{q:Rq}
def adT(h:¬k=1/\¬k=2/\¬k=3/\¬k=5/\¬k=6):qk k=0:=by
 grind [qk]
def acD(h:k=2\/k=3):qk k=2:=by unfold qk;grind
def abz(h:k=5\/k=6):qk k=3:=by grind [qk]
def ads(h:k=1):qk k=1:=by unfold qk;rw[aa h]
def xh(k:Int):qk k=0\/qk k=1\/qk k=2\/qk k=3:=by
 grind [qk]
def NU(h:qk q.kd=0):Fz q=.no:=by unfold Fz;rw[h];rfl
def NO(h:qk q.kd=1):Fz q=.pair q.pick q.drop:=by unfold Fz;rw[h];rfl
def Ip(h:qk q.kd=2):Fz q=.short q.num:=by unfold Fz;rw[h];rfl
def Gu(h:qk q.kd=3):Fz q=.Mo q.num:=by unfold Fz;rw[h];rfl
def WZ(q:Rq):X5 q.kd q.tok (Fz q)=qu q:=by
 rcases xh q.kd with h|h|h|h<;>(unfold Fz qu;rw[h];rfl)
def z8:(0:Int)<=0/\(0:Int)<256:=by decide
def z4:(0:Int)<=0/\(0:Int)<4294967296:=by decide
def I7(I:q.fit):(qu q).fit:=by
 rcases xh q.kd with h|h|h|h<;>(unfold qu;rw[h];exact⟨I.kd,I.tok,by first|exact I.pick|exact z8,by first|exact I.drop|exact z8,by first|exact I.num|exact z4⟩)
def Mg(h:¬(1<=q.kd/\q.kd<=6)\/zw q=false\/¬qu q=q):Ss q=8:=ae (by
 grind)
def Uz(h:(1<=q.kd/\q.kd<=6)/\zw q=true/\qu q=q):Ss q=0:=aa ⟨⟨h.1,h.2.1⟩,h.2.2⟩
def yF(b:ap):E.Bd:=match qk (rk b) with
 |0=>.no
 |1=>.pair (IntKind.u8.wrap (Cf.aO ((b.drop 49).take 1))) (IntKind.u8.wrap (Cf.aO ((b.drop (49+1)).take 1)))
 |2=>.short (IntKind.u32.wrap (Cf.aO ((b.drop 49).take 2)))
 |_=>.Mo (IntKind.u32.wrap (Cf.aO ((b.drop 49).take 4)))
def tB(b:ap):Rq:=⟨rk b,Au.dec ((b.drop 3).take 46),0,0,0⟩
def RW(b:ap):X5 (rk b) (Au.dec ((b.drop 3).take 46)) (yF b)=sG b:=by
 rcases xh (rk b) with h|h|h|h<;>(unfold yF sG;rw[h];rfl)
def pw(n:Int):0<=IntKind.u8.wrap n/\IntKind.u8.wrap n<256:=by rw[IntKind.wrap_u8];omega
theorem DL(h:49<=b.length):(sG b).fit:=by
 have ht:=Au.qv (b:=(b.drop 3).take 46) (by grind)
 rcases xh (rk b) with h|h|h|h<;>(unfold sG;rw[h];exact⟨pw _,ht,by first|exact pw _|exact z8,by first|exact pw _|exact z8,by first|exact Dg.zq _|exact z4⟩)
theorem GX(k:Nat):49<=sC k:=by
 match k with
 |0=>exact bb _
 |1=>exact by decide
 |2=>exact by decide
 |(k+3)=>exact(by decide:49<=53)
def JE(b:ap):j7 b=(decide (Cf.aO (b.take 2)=(b.length:Int))&&decide (((sC (qk (rk b)):Nat):Int)=b.length)):=by
 grind [j7]
theorem vu(h:j7 b=true):49<=b.length:=by
 grind [j7,GX]
def Jf(h:b.length<sC (qk (rk b))):j7 b=false:=by
 grind [j7]
end Wi
namespace E
def Vd{P:Program}{f:Nat}{args:Array Value}{w0:World}{S:Nat->Prop}{p:HP}{R:Value->List HP->Prop}(M:p.bA S w0)(Q:∀k,S k->k<w0.heap.size)(h:Calls P f args w0 (bK w0 (Old w0) R)):Calls P f args w0 (bK w0 (Fm w0 S) fun v Hn=>∃I,R v I/\Hn=I++[p]):=
 h.mono fun _ _ ⟨v,I,Z,h2,h3⟩=>⟨v,I++[p],Z,⟨I,h2,rfl⟩,(HA.au M Q).behind h3⟩
end E
namespace Wi
open Go Gw
def pbd(x:E.Rw):E.Bd:=match bk x.r with
 |0=>.no
 |1=>.order x.r.od
 |2=>.state x.r.st x.r.dn
 |3=>.watch x.A x.c x.r.jb x.r.qd
 |4=>.chain x.r.dF x.A2 x.c2 x.r.kS
 |_=>.tZ x.r.tok
def Ue(x:E.Rw):Rp:=⟨x.r.kd,x.r.cd,x.r.tk,0,0,0,[],0,0,[],Tk.z⟩
def pof(x:E.Rw):E.Bd->E.Rw
 |.order n=>⟨{Ue x with od:=n},none,0,none,0⟩
 |.state q d=>⟨{Ue x with st:=q,dn:=d},none,0,none,0⟩
 |.watch A c l q=>⟨{Ue x with jb:=l,qd:=q},A,c,none,0⟩
 |.chain n A c l=>⟨{Ue x with dF:=n,kS:=l},none,0,A,c⟩
 |.tZ t=>⟨{Ue x with tok:=t},none,0,none,0⟩
 |_=>⟨Ue x,none,0,none,0⟩
def xp(r:Rp):bk r=0\/bk r=1\/bk r=2\/bk r=3\/bk r=4\/bk r=5:=by
 unfold bk;split<;>(try split)<;>(try split)<;>(try split)<;>(try split)<;>(try split)<;>omega
variable {r:Rp}{x:E.Rw}
def ady(h:¬r.cd=0):bk r=0:=ae h
def adx(h:r.cd=0)(k:¬r.kd=1/\¬r.kd=16/\¬r.kd=3/\¬r.kd=4/\¬r.kd=5/\¬r.kd=18):bk r=0:=by
 unfold bk;rw[aa h,ae K1,ae K1,ae K1,ae K1,ae K1]
def acf(h:r.cd=0)(k:r.kd=1\/r.kd=16):bk r=1:=by unfold bk;rw[aa h,aa k]
def aei(h:r.cd=0)(k:r.kd=3):bk r=2:=by unfold bk;rw[aa h,ae K1,aa k]
def aed(h:r.cd=0)(k:r.kd=4):bk r=3:=by unfold bk;rw[aa h,ae K1,ae K1,aa k]
def aee(h:r.cd=0)(k:r.kd=5):bk r=4:=by unfold bk;rw[aa h,ae K1,ae K1,ae K1,aa k]
def acj(h:r.cd=0)(k:r.kd=18):bk r=5:=by unfold bk;rw[aa h,ae K1,ae K1,ae K1,ae K1,aa k]
def HQ(h:bk x.r=0):pbd x=.no:=by unfold pbd;rw[h];rfl
def G8(h:bk x.r=1):pbd x=.order x.r.od:=by unfold pbd;rw[h];rfl
def Rm(h:bk x.r=2):pbd x=.state x.r.st x.r.dn:=by unfold pbd;rw[h];rfl
def O3(h:bk x.r=3):pbd x=.watch x.A x.c x.r.jb x.r.qd:=by unfold pbd;rw[h];rfl
def OQ(h:bk x.r=4):pbd x=.chain x.r.dF x.A2 x.c2 x.r.kS:=by unfold pbd;rw[h];rfl
def GN(h:bk x.r=5):pbd x=.tZ x.r.tok:=by unfold pbd;rw[h];rfl
def Oc(x:E.Rw):(pof x (pbd x)).r=su x.r:=by
 rcases xp x.r with h|h|h|h|h|h<;>(unfold pbd su;rw[h];rfl)
def Ui(x:E.Rw){w:World}{G:Nat->Prop}(I:E.dc w G x.mem):E.dc w G (pof x (pbd x)).mem:=by
 have M:E.dc w G x.mem:=I
 rcases xp x.r with h|h|h|h|h|h<;>(unfold pbd;rw[h];intro p hp;simp only[pof,E.Rw.mem,Ue,er,bg,or_false] at hp;rcases hp with rfl|rfl)<;>
  first|exact I (x.A,E.fl Sg.cs x.r.jb) (by simp[E.Rw.mem])|exact I (x.A2,E.fl Rc.cw x.r.kS) (by simp[E.Rw.mem])|exact E.Rd.nil
def jd:Au.fit Tk.z:=⟨by decide,by decide,by decide,by decide,rfl⟩
def IU(I:r.fit):(su r).fit:=by
 rcases xp r with h|h|h|h|h|h<;>(unfold su;rw[h];exact⟨by first|exact I.tok|exact jd,by first|exact I.jb|(intro s hs;cases hs),by first|exact I.kS|(intro s hs;cases hs),by first|exact I.rl|exact bF _,by first|exact I.cl|exact bF _⟩)
def same(a b:Rp):Bool:=(((((((((decide (a.kd=b.kd)&&decide (a.cd=b.cd))&&decide (a.tk=b.tk))&&decide (a.od=b.od))&&decide (a.st=b.st))&&decide (a.dn=b.dn))&&decide (a.jb=b.jb))&&decide (a.qd=b.qd))&&decide (a.dF=b.dF))&&decide (a.kS=b.kS))&&decide (a.tok=b.tok)
def N6(a b:Rp):same a b=decide (a=b):=by
 rw[de];unfold same;simp only[ay,ax];constructor
 ·rintro⟨⟨⟨⟨⟨⟨⟨⟨⟨⟨h1,h2⟩,h3⟩,h4⟩,h5⟩,h6⟩,h7⟩,h8⟩,h9⟩,I⟩,M⟩;obtain⟨a1,a2,a3,a4,a5,a6,a7,a8,a9,Q,Z⟩:=a;simp_all
 rintro rfl;simp
theorem Bh(I:r.fit):(FT r).length<=50000:=by
 have M:=I.rl;have Q:=I.cl;unfold FT;rcases xp r with h|h|h|h|h|h<;>rw[h]
 ·exact bF _
 ·show(Dg.bs _ 2 2).length<=_;simp
 ·show(Dg.bs _ 1 1++Dg.bs _ 8 8).length<=_;simp
 ·show(tP r.jb r.qd).length<=_;unfold tP;have:=C4 r.jb r.jb.length (bb _);simp only[aF,Dg.eS];omega
 ·show(vY r.dF r.kS).length<=_;unfold vY;have:=As r.kS I.kS r.kS.length (bb _);simp only[aF,Dg.eS];omega
 show(Au.enc r.tok).length<=_;rw[Au.jP I.tok];omega
def Oy(h:rH r.cd 65535=false\/xH r.kd r.cd=false\/¬r.tk<=4611686018427387904\/yM r=false\/¬r=su r):FU r=8:=ae (by
 rintro⟨⟨⟨I,M⟩,Q,Z⟩,h5⟩
 rcases h with h|h|h|h|h
 ·rw[I] at h;cases h
 ·rw[M] at h;cases h
 ·exact h Q
 ·rw[Z] at h;cases h
 ·exact h h5)
def HW(h:rH r.cd 65535=true/\xH r.kd r.cd=true/\r.tk<=4611686018427387904/\yM r=true/\r=su r):FU r=0:=aa ⟨⟨⟨h.1,h.2.1⟩,h.2.2.1,h.2.2.2.1⟩,h.2.2.2.2⟩
end Wi
section
variable{P:Program}{n:E.Fr}{w0:World}{F:Nat->Prop}{K:E.Kt}{l:E.Env}{H:List E.HP}
namespace Gw
open Cf (C ag)
open Tr (F FI ai bL)
structure Ac.ok(a:Ac):Prop where
 log:a.log.fit
 fm:a.fm.length<=4160
structure SI(g:C)(s:S)(n:Nat):Prop where
 fi:FI g s.f
 al:s.ac.length=g.ts.length
 ac:∀a∈s.ac,a.ok
 ol:s.outs.length<=n
variable {g:C}
def Jj(hc:Cf.check g=0)(t:Int):((Cf.dt g t).1&&decide ((Cf.dt g t).2=0))=ag g.ts t:=by
 grind [Cf.dt,ag]
theorem zP:Ac.z.ok:=⟨⟨by decide,rfl,fun r I=>(by cases I),bF _⟩,bF _⟩
def gI{s:S}{n:Nat}(h:SI g s n)(t:Nat):(ak s t).ok:=by
 unfold ak;rw[aW];by_cases ht:t<s.ac.length
 ·rw[aC ht,dW];exact h.ac _ (lR ht)
 grind [zP]
def SI.say{s:S}{n:Nat}(h:SI g s n)(x:Ou):SI g {s with outs:=s.outs++[x]} (n+1):=
 ⟨h.fi,h.al,h.ac,by show(s.outs++[x]).length<=n+1;rw[aF];exact Nat.succ_le_succ h.ol⟩
def SI.more{s:S}{n m:Nat}(h:SI g s n)(I:n<=m):SI g s m:=⟨h.fi,h.al,h.ac,ic h.ol I⟩
theorem SI.set{g:C}{s:S}{n:Nat}(h:SI g s n){t:Nat}{w:Cr.W}{a:Ac}(I:FI g (bL s.f t w))(ha:a.ok):SI g (ej s t w a []) n:=
 ⟨I,by show(s.ac.set t a).length=_;rw[aM];exact h.al,fun x M=>(ig M).elim (h.ac x) (fun e=>e▸ha),by show(s.outs++[]).length<=n;rw[bp];exact h.ol⟩
end Gw
namespace E
structure Aw where
 a:Gw.Ac
 A:am
 c:Nat
 A2:am
 c2:Nat
 A3:am
 c3:Nat
def Aw.cells(x:Aw):bi:=.slice x.A x.a.ring.length x.c:: .int .u32 x.a.log.dF::(xv x.a.log.lk++[.slice x.A2 x.a.log.rs.length x.c2,.slice x.A3 x.a.fm.length x.c3])
def Aw.z:Aw:=⟨Gw.Ac.z,none,0,none,0,none,0⟩
def Aw.fx:Fx Aw.cells 36:=⟨fun _=>rfl,fun x u I=>aJ.1 (show(Aw.cells x).all (·.oneCell')=true from rfl) u I,K1⟩
def Aw.mem(x:Aw):Mem:=[(x.A,fl Gw.Mt.cs x.a.ring),(x.A2,fl Gw.Rc.cw x.a.log.rs),(x.A3,aA x.a.fm)]
def Aw.lw(x:Aw):Lw:=⟨x.a.log,x.A2,x.c2⟩
structure Ow where
 o:Gw.Ou
 A:am
 c:Nat
def Ow.cells(x:Ow):bi:=[.int .i64 x.o.tn,.int .u64 x.o.tk,.slice x.A x.o.bs.length (x.o.bs.length+x.c)]
def Ow.z:Ow:=⟨⟨0,0,[]⟩,none,0⟩
def Ow.fx:Fx Ow.cells 3:=⟨fun _=>rfl,fun x u I=>by simp[Ow.cells] at I;rcases I with rfl|rfl|rfl<;>rfl,K1⟩
def Ow.mem(x:Ow):Mem:=[(x.A,aA x.o.bs)]
def yK(ws:List Aw):Mem:=ws.flatMap Aw.mem
def j2(os:List Ow):Mem:=os.flatMap Ow.mem
structure Sx where
 B:Nat
 g:aP
 K:am
 kc:Nat
 key:ap
 AC:am
 CC:Nat
 nA:Nat
structure Si where
 f:Fe
 ws:List Aw
 AO:am
 cO:Nat
 os:List Ow
def Si.q(z:Si):Gw.S:=⟨z.f.q,z.ws.map Aw.a,z.os.map Ow.o⟩
def Si.cells(X:Sx)(z:Si):bi:=[.int .i64 X.g.a,.int .i64 X.g.b,.slice X.g.A X.g.l.length X.g.c,.slice X.g.A1 X.g.s.length X.g.c1,.slice X.g.A2 X.g.ts.length X.g.c2,.int .u64 X.g.st,.slice X.K X.key.length X.kc,
 .slice z.f.A z.f.cs.length z.f.c,.slice z.f.A2 z.f.cl.length z.f.c2,.int .u64 z.f.tk,.slice X.AC X.nA X.CC,.slice z.AO z.os.length z.cO]
def Si.mem(z:Si):Mem:=z.f.mem++(yK z.ws++j2 z.os)
def Si.ok(X:Sx)(z:Si):Prop:=z.ws.length=X.nA/\∀x∈z.ws,x.a.log.rs.length<=x.c2
def Si.chunks(X:Sx)(z:Si):List HP:=[HP.aw X.B 91 (z.cells X),HP.row 132 36 X.AC X.nA X.CC (fl Aw.cells z.ws),HP.row 50 3 z.AO z.os.length z.cO (fl Ow.cells z.os),HP.ro z.mem]
def HP.si(X:Sx)(s:Gw.S):HP where
 bA S w:=∃z:Si,z.q=s/\z.ok X/\(HP.dj (z.chunks X)).bA S w
 loc:=fun S w w' h ⟨z,I,M,Q⟩=>⟨z,I,M,(HP.dj _).loc S w w' h Q⟩
section
variable{o:Oper}
variable {s:Gw.S}
def CW.CY{c:Code}(i:Nat){X:Sx}{I:List HP}(hi:sel H i=some (HP.si X s,I))(k:∀z:Si,z.q=s->z.ok X->CW P n w0 F c K l (HP.aw X.B 91 (z.cells X)::HP.row 132 36 X.AC X.nA X.CC (fl Aw.cells z.ws)::HP.row 50 3 z.AO z.os.length z.cO (fl Ow.cells z.os)::HP.ro z.mem::I)):CW P n w0 F c K l H:=fun a w ha Q=>by
 have M:=Q.sel hi
 obtain⟨S,⟨z,Z,e2,g1⟩,g2,g3⟩:=M.chunks
 exact k z Z e2 a w ha {M with chunks:=ah.open (ps:=z.chunks X) ⟨S,g1,g2,g3⟩}
def OW.CY{ops:Array Oper}{I:List Oper}(i:Nat){X:Sx}{M:List HP}(hi:sel H i=some (HP.si X s,M))(k:∀z:Si,z.q=s->z.ok X->OW P n w0 F ops K I l (HP.aw X.B 91 (z.cells X)::HP.row 132 36 X.AC X.nA X.CC (fl Aw.cells z.ws)::HP.row 50 3 z.AO z.os.length z.cO (fl Ow.cells z.os)::HP.ro z.mem::M)):OW P n w0 F ops K I l H:=fun a w ha Z=>by
 have Q:=Z.sel hi
 obtain⟨S,⟨z,e1,e2,g1⟩,g2,g3⟩:=Q.chunks
 exact k z e1 e2 a w ha {Q with chunks:=ah.open (ps:=z.chunks X) ⟨S,g1,g2,g3⟩}
def ey{X:Sx}(z:Si)(is:List Nat){r:List HP}(hs:E.sels H is=some (HP.aw X.B 91 (z.cells X)::HP.row 132 36 X.AC X.nA X.CC (fl Aw.cells z.ws)::HP.row 50 3 z.AO z.os.length z.cO (fl Ow.cells z.os)::HP.ro z.mem::r))(M:z.q=s)(I:z.ok X):∀w U,ah w U H->ah w U (HP.si X s::r):=fun w U h=>by
 obtain⟨S,Q,Z,g3⟩:=ah.aX (ps:=z.chunks X) (r:=r) (ch hs h)
 exact⟨S,⟨z,M,I,Q⟩,Z,g3⟩
end
def dh{H I ps r:List HP}(is:List Nat)(m:Nat)(hs:E.sels H is=some I)(Z:spl I m=some (ps,r)){L:Mem}[hp:Ro (HP.dj ps) L](M:Mem)(hl:M⊆L):∀w U,ah w U H->ah w U (HP.ro M::r):=fun w U h=>by
 have Q:=ch hs h
 rw[rJ Z] at Q
 exact(Q.aX.gT (hp:=hp)).Vy hl
variable {s:Gw.S}{t:Nat}
def Si.qW{z:Si}(h:z.q=s):z.f.q=s.f:=by rw[<-h];rfl
def Si.al{z:Si}(h:z.q=s):z.ws.length=s.ac.length:=by rw[<-h];exact(bZ ..).symm
def Si.ol{z:Si}(h:z.q=s):z.os.length=s.outs.length:=by rw[<-h];exact(bZ ..).symm
theorem Si.tk{z:Si}{s:Gw.S}(h:z.q=s):z.f.tk=s.f.tk:=by rw[<-h];rfl
def cv(z:Si)(t:Nat):Aw:=z.ws.getD t Aw.z
def Si.ac{z:Si}(h:z.q=s)(t:Nat):(cv z t).a=Gw.ak s t:=by
 subst h;unfold Gw.ak cv;rw[aW,aW];show _=((z.ws.map Aw.a)[t]?).getD Gw.Ac.z;rw[my];cases z.ws[t]? <;>rfl
theorem Si.cr{z:Si}(h:z.q=s)(t:Nat):(bm z.f t).q=Tr.ai s.f t:=by rw[<-Fe.at,Si.qW h]
def nZ{z:Si}(h:t<z.ws.length):cv z t∈z.ws:=by
 grind [cv]
theorem kX{z:Si}(h:t<z.ws.length):(cv z t).mem⊆z.mem:=fun p hp=>List.mem_append_right _ (iU _ (ft.2 ⟨_,nZ h,hp⟩))
theorem Pp{ws:List Aw}{y:Aw}:yK (ws.set t y)⊆yK ws++y.mem:=fun p hp=>by
 obtain⟨x,I,M⟩:=ft.1 hp
 rcases ig I with h|h
 ·exact aN.2 (.inl (ft.2 ⟨x,h,M⟩))
 grind
theorem xk(os:List Ow)(y:Ow):j2 (os++[y])=j2 os++y.mem:=by simp[j2]
section
variable{w:World}{G:Nat->Prop}{z:Si}
def Si.rf(h:dc w G z.mem):dc w G z.f.mem:=h.sub fun p hp=>iU _ hp
def Si.ra(h:dc w G z.mem){t:Nat}(ht:t<z.ws.length):dc w G (cv z t).mem:=h.sub (kX ht)
end
def Si.Tu(z:Si)(A:am)(c:Nat)(y:Ow):(Si.mk z.f z.ws A c (z.os++[y])).mem⊆y.mem++(z.mem++[]):=fun p hp=>by
 grind [mem,xk]
def Si.aa6{z:Si}(h:z.q=s)(A:am)(c:Nat)(y:Ow):(Si.mk z.f z.ws A c (z.os++[y])).q={s with outs:=s.outs++[y.o]}:=by
 subst h;unfold Si.q;grind
structure SH(w:World)(G:Nat->Prop)(X:Sx)(pm:List Yb):Prop where
 hg:X.g.rd w G
 hk:Rd w G X.K (aA X.key)
 hc:Rd w G (some ⟨1,0,none⟩) (dm Dg.ks)
 hp:Pm w G pm
structure SP(X:Sx):Prop where
 ck:Cf.check X.g.q=0
 gf:X.g.q.fit
section
variable{w0 w:World}{F:Nat->Prop}{H:List HP}
theorem SH.fD{X:Sx}{pm:List Yb}(h:SH w0 F X pm)(I:HA w0 F H w){S:Nat->Prop}(M:∀k,S k->k<w.heap.size/\¬F k):SH w (Fm w S) X pm:=⟨I.sH h.hg M,I.fD h.hk M,I.fD h.hc M,⟨I.fD h.hp.r M,fun y Q=>I.fD (h.hp.m y Q) M,h.hp.e⟩⟩
end
end E
end
namespace Tr
def wB{e:Cr.Ev}{k:Int}{w:Cr.W}{p d:Int}(h:¬(submW e k w p d).2=0):(submW e k w p d).1=w:=by
 grind [submW]
def wW{e:Cr.Ev}{w:Cr.W}{id:Int}(h:¬(ee e w id).2=0):(ee e w id).1=w:=by
 grind [ee]
def F2{w:Cr.W}{n:Int}(h:¬(ew w n).2=0):(ew w n).1=w:=by
 grind [ew]
def pj{f:F}{t:Nat}(ht:t<f.cs.length):bL f t (ai f t)=f:=by
 have e:f.cs.set t (ai f t)=f.cs:=by
  grind [List.ext_getElem,List.length_set,ai]
 show(⟨f.cs.set t (ai f t),f.cl,f.tk⟩:F)=f;rw[e]
end Tr
namespace Gw
open Tr (ai bL)
def yr{s:S}{t:Nat}(ht:t<s.ac.length):s.ac.set t (ak s t)=s.ac:=by
 grind [List.ext_getElem,List.length_set,ak]
def after(s:S)(t:Nat)(w:Cr.W)(ring:List Mt):S:=ej s t w {ak s t with ring:=ring} []
def kP{s:S}{t:Nat}(hc:t<s.f.cs.length)(ha:t<s.ac.length):after s t (ai s.f t) (ak s t).ring=s:=by
 unfold after ej;rw[Tr.pj hc,bp];show(⟨s.f,s.ac.set t (ak s t),s.outs⟩:S)=s;rw[yr ha]
section
variable{o:zL}{e:Cr.Ev}{k:Int}{w:Cr.W}{a:Ac}{q:Rq}
def ac7(h:q.kd=1):aR o e k w a q=((Tr.submW e k w q.pick q.drop).1,a.ring,{Rp.z with od:=if(Tr.submW e k w q.pick q.drop).2=0 then(Tr.submW e k w q.pick q.drop).1.b.os.length else 0},(Tr.submW e k w q.pick q.drop).2):=aa h
def abV(h:q.kd=2):aR o e k w a q=((Tr.ee e w q.num).1,a.ring,Rp.z,(Tr.ee e w q.num).2):=by unfold aR;grind
def adw(h:q.kd=3):aR o e k w a q=(w,a.ring,{Rp.z with st:=(Od.res Od.O.z (Od.kq e.m w.b q.num)).1.st,dn:=(Od.res Od.O.z (Od.kq e.m w.b q.num)).1.dn},(Od.res Od.O.z (Od.kq e.m w.b q.num)).2):=by grind [aR]
def ad0(h:q.kd=4):aR o e k w a q=(w,a.ring,{Rp.z with jb:=jZ w,qd:=w.b.q.length},0):=by grind [aR]
def aeh(h:q.kd=5):aR o e k w a q=(w,a.ring,{Rp.z with dF:=a.log.dF,kS:=(o.since a.log q.num).1},(o.since a.log q.num).2):=by grind [aR]
def acp(h:q.kd=6):aR o e k w a q=(w,if(o.bT a.ring q.num).2=0 then(o.bT a.ring q.num).1 else a.ring,Rp.z,(o.bT a.ring q.num).2):=by grind [aR]
end
def SI.tc{g:Cf.C}{s:S}{n:Nat}(h:SI g s n){t:Int}(hp:Cf.ag g.ts t=true):0<=t/\t.toNat<s.f.cs.length/\t.toNat<s.ac.length:=by
 have I:=Rt.dS hp;have M:=h.fi.c;have Q:=h.al;omega
end Gw
namespace E
open Tr (ai bL)
section
variable{z:Si}{s:Gw.S}
variable {t:Nat}
def Si.oW(h:z.q=s)(hc:t<s.f.cs.length)(ha:t<s.ac.length):z.q=Gw.after s t (ai s.f t) (Gw.ak s t).ring:=by rw[Gw.kP hc ha];exact h
def Si.Gy(h:z.q=s)(ha:t<s.ac.length){I:Fe}{w:Cr.W}(M:I.q=bL s.f t w):(Si.mk I z.ws z.AO z.cO z.os).q=Gw.after s t w (Gw.ak s t).ring:=by
 unfold Gw.after Gw.ej;rw[show({Gw.ak s t with ring:=(Gw.ak s t).ring}:Gw.Ac)=Gw.ak s t from rfl,Gw.yr ha,bp]
 subst h;show(⟨I.q,_,_⟩:Gw.S)=_;rw[M];rfl
def Si.Qb(z:Si)(I:Fe):(Si.mk I z.ws z.AO z.cO z.os).mem⊆I.mem++(z.mem++[]):=fun p hp=>by
 grind [mem]
def Si.yg(h:z.q=s)(hc:t<s.f.cs.length){y:Aw}{ring:List Gw.Mt}(I:y.a={Gw.ak s t with ring:=ring}):(Si.mk z.f (z.ws.set t y) z.AO z.cO z.os).q=Gw.after s t (ai s.f t) ring:=by
 unfold Gw.after Gw.ej;rw[Tr.pj hc,bp,<-I];subst h;show(⟨z.f.q,(z.ws.set t y).map Aw.a,_⟩:Gw.S)=_;rw[mc];rfl
theorem Si.abK(z:Si)(t:Nat)(y:Aw):(Si.mk z.f (z.ws.set t y) z.AO z.cO z.os).mem⊆y.mem++(z.mem++[]):=fun p hp=>by
 grind [mem,Pp]
def Si.QU{X:Sx}(hk:z.ok X){y:Aw}(I:y.a.log.rs.length<=y.c2):(Si.mk z.f (z.ws.set t y) z.AO z.cO z.os).ok X:=⟨by show(z.ws.set t y).length=_;rw[aM];exact hk.1,fun x M=>(ig M).elim (hk.2 x) (fun e=>e▸I)⟩
def Si.DX(z:Si)(t:Nat)(y:Aw)(L:Mem)(h:∀p∈y.mem,p∈L\/p∈z.mem):(Si.mk z.f (z.ws.set t y) z.AO z.cO z.os).mem⊆L++(z.mem++[]):=fun p hp=>by
 grind [abK]
def Aw.jv(x:Aw)(r:List Gw.Mt)(A:am)(c:Nat):Aw:=⟨⟨r,x.a.log,x.a.fm⟩,A,c,x.A2,x.c2,x.A3,x.c3⟩
def Aw.ue(x:Aw)(g:Gw.Lg)(A:am)(c:Nat):Aw:=⟨⟨x.a.ring,g,x.a.fm⟩,x.A,x.c,A,c,x.A3,x.c3⟩
def Aw.uY(x:Aw)(b:ap)(A:am)(c:Nat):Aw:=⟨⟨x.a.ring,x.a.log,b⟩,x.A,x.c,x.A2,x.c2,A,c⟩
def Si.qg(z:Si)(ht:t<z.ws.length)(r:List Gw.Mt)(A:am)(c:Nat):(Si.mk z.f (z.ws.set t ((cv z t).jv r A c)) z.AO z.cO z.os).mem⊆[(A,fl Gw.Mt.cs r)]++(z.mem++[]):=Si.DX z t _ _ fun p hp=>by
 grind [Aw.mem,Aw.jv,kX]
def Si.TN(z:Si)(ht:t<z.ws.length)(g:Gw.Lg)(A:am)(c:Nat):(Si.mk z.f (z.ws.set t ((cv z t).ue g A c)) z.AO z.cO z.os).mem⊆[(A,fl Gw.Rc.cw g.rs)]++(z.mem++[]):=Si.DX z t _ _ fun p hp=>by
 grind [Aw.mem,Aw.ue,kX]
def Si.Qr(z:Si)(ht:t<z.ws.length)(b:ap)(A:am)(c:Nat):(Si.mk z.f (z.ws.set t ((cv z t).uY b A c)) z.AO z.cO z.os).mem⊆[(A,aA b)]++(z.mem++[]):=Si.DX z t _ _ fun p hp=>by
 grind [Aw.mem,Aw.uY,kX]
def qb{H:List HP}{L:Mem}(I:∀p∈L,p.2=[]):∀w U,ah w U H->ah w U (HP.ro L::H):=fun w U h=>⟨fun _=>False,⟨show dc w (fun _=>False) L from fun p hp M=>by grind,⟨fun _ hk=>hk.elim,h.congr fun k=>by simp⟩⟩⟩
def Gm{H I ps r:List HP}(is:List Nat)(m:Nat)(hs:E.sels H is=some I)(Z:spl I m=some (ps,r)){L:Mem}[hp:Ro (HP.dj ps) L](M:Mem)(hl:∀p∈M,p∈L\/p.2=[]):∀w U,ah w U H->ah w U (HP.ro M::r):=fun w U h=>by
 have Q:=ch hs h
 rw[rJ Z] at Q
 obtain⟨S,g1,g2,g3⟩:=Q.aX.gT (hp:=hp)
 exact⟨S,fun p hq=>(hl p hq).elim (g1 p) (fun e hx=>by grind),g2,g3⟩
def Cw.rb{w:World}{G:Nat->Prop}{y:Cw}(h:dc w G y.mem):y.b.rd w G:=Bk.sy.2 (h.sub (by simp[Cw.mem,Bk.mem]))
theorem Si.fl{z:Si}{s:Gw.S}(h:z.q=s):z.f.cs.length=s.f.cs.length:=by rw[<-Fe.len,Si.qW h]
def Rw.of(r:Gw.Rp):Rw:=⟨r,none,0,none,0⟩
def Rw.tz{r:Gw.Rp}(I:r.jb=[])(M:r.kS=[]):∀p∈(Rw.of r).mem,p.2=[]:=fun p hp=>by
 simp only[Rw.of,Rw.mem,I,M,er,bg,or_false] at hp
 rcases hp with rfl|rfl<;>rfl
end
end E
namespace Au
open Gw
def rp{l:List Mt}{key:ap}{tn role aG now:Int}(Q:0<=role/\role<256):fit (bX l key tn role aG now).2.1:=by
 unfold bX;split
 ·exact Wi.jd
 rename_i Z;split
 ·rename_i M;obtain⟨hm,hl⟩:=wE M
  have I:fX tn=true:=by
   cases ht:fX tn with
   |true=>rfl
   |false=>exact absurd ⟨.inl M,by simp[ht]⟩ Z
  unfold fX at I;simp only[ay,ax] at I;refine qt ⟨⟨I.1,by show tn<256;omega⟩,Q,ux _ _,?_,rfl⟩
  rw[hm];exact Dg.zq _
 exact Wi.jd
end Au
namespace Gw
open Tr (ai bL)
variable{o:zL}
def eW:Rp.z.fit:=⟨Wi.jd,fun s h=>(by cases h),fun s h=>(by cases h),bF _,bF _⟩
def PC{g:Cf.C}{key:ap}{s:S}{n:Nat}{x:St}(I:SI g s n)(hk:x.kd=3)(h:¬(if Cf.ag g.ts x.tn=true then(Tr.ew (ai s.f x.tn.toNat) x.rb).2 else 2)=0):step o g key s x=s:=by
 unfold step;rw[ae K1];by_cases hp:Cf.ag g.ts x.tn=true
 ·rw[aa hp] at h⊢;obtain⟨_,hc,ha⟩:=I.tc hp;rw[ae K1,aa hk,Tr.F2 h];exact kP hc ha
 rw[ae hp]
def qR{g:Cf.C}{key:ap}{s:S}{x:St}(hk:x.kd=3)(hp:Cf.ag g.ts x.tn=true):step o g key s x=after s x.tn.toNat (Tr.ew (ai s.f x.tn.toNat) x.rb).1 (ak s x.tn.toNat).ring:=by
 unfold step;rw[ae K1,aa hp,ae K1,aa hk];rfl
def aaO{b:Bool}{e:Int}(h:(if b=true then e else 2)=0):b=true/\e=0:=by
 grind
def rF{s:S}{t:Nat}{w:Cr.W}{r:List Mt}{x:Ou}:({after s t w r with outs:=(after s t w r).outs++[x]}:S)=ej s t w {ak s t with ring:=r} [x]:=by
 show(⟨_,_,(s.outs++[])++[x]⟩:S)=⟨_,_,s.outs++[x]⟩;rw[bp];rfl
def Bl{s:S}{t:Nat}{x:Ou}(hc:t<s.f.cs.length)(ha:t<s.ac.length):({s with outs:=s.outs++[x]}:S)=ej s t (ai s.f t) (ak s t) [x]:=by
 have:=kP hc ha;conv=>lhs;rw[<-this]
 exact rF
def xR{g:Cf.C}{key:ap}{s:S}{x:St}(hk:¬x.kd=1)(hp:Cf.ag g.ts x.tn=false):step o g key s x=s:=by
 unfold step;rw[ae hk,ae (by rw[hp];simp)]
def eQ(k cd:Int)(t:Tk):Rp:={Rp.z with kd:=18,cd:=cd,tk:=k,tok:=t}
def mu{k cd:Int}{t:Tk}(h:Au.fit t):(eQ k cd t).fit:=⟨h,fun s h=>(by cases h),fun s h=>(by cases h),bF _,bF _⟩
section
variable{g:Cf.C}{key:ap}{s:S}{n:Nat}{x:St}
def kN(hk:x.kd=4)(hp:Cf.ag g.ts x.tn=true)(h:(o.bX (ak s x.tn.toNat).ring key x.tn x.role x.aG s.f.tk).2.2=0):step o g key s x=ej s x.tn.toNat (ai s.f x.tn.toNat) {ak s x.tn.toNat with ring:=(o.bX (ak s x.tn.toNat).ring key x.tn x.role x.aG s.f.tk).1} [out o x.tn (eQ s.f.tk 0 (o.bX (ak s x.tn.toNat).ring key x.tn x.role x.aG s.f.tk).2.1)]:=by
 unfold step;rw[ae K1,aa hp,ae K1,ae K1,aa hk];unfold fM;rw[aa h];rfl
def nP(hk:x.kd=4)(hp:Cf.ag g.ts x.tn=true)(h:(o.bX (ak s x.tn.toNat).ring key x.tn x.role x.aG s.f.tk).2.2=9):step o g key s x=ej s x.tn.toNat (ai s.f x.tn.toNat) (ak s x.tn.toNat) [out o x.tn (eQ s.f.tk 9 Tk.z)]:=by
 unfold step;rw[ae K1,aa hp,ae K1,ae K1,aa hk];unfold fM;rw[ae (by rw[h];decide),aa h];rfl
def xL(I:SI g s n)(hk:x.kd=4)(hp:Cf.ag g.ts x.tn=true)(h:¬(o.bX (ak s x.tn.toNat).ring key x.tn x.role x.aG s.f.tk).2.2=0)(M:¬(o.bX (ak s x.tn.toNat).ring key x.tn x.role x.aG s.f.tk).2.2=9):step o g key s x=s:=by
 obtain⟨_,hc,ha⟩:=I.tc hp;unfold step;rw[ae K1,aa hp,ae K1,ae K1,aa hk];unfold fM;rw[ae h,ae M];have:=kP hc ha;unfold after at this;exact this
end
end Gw
namespace E
def vi{w:World}{G:Nat->Prop}{r:Gw.Rp}(M:r.jb=[])(Q:r.kS=[]):dc w G (Rw.of r).mem:=fun p hp I=>by rw[Rw.tz M Q p hp] at I;exact absurd I (by simp)
structure Sw where
 x:Gw.St
 A:am
 c:Nat
def Sw.cells(y:Sw):bi:=[.int .u8 y.x.kd,.int .i64 y.x.tn,.int .i64 y.x.rb,.int .u8 y.x.role,.int .u64 y.x.aG,.slice y.A y.x.bs.length y.c]
def Sw.v(y:Sw):Value:=.agg y.cells.toArray
def Sw.z:Sw:=⟨⟨0,0,0,0,0,[]⟩,none,0⟩
def Sw.fx:Fx Sw.cells 6:=⟨fun _=>rfl,fun x u I=>aJ.1 (show(Sw.cells x).all (·.oneCell')=true from rfl) u I,K1⟩
structure Sw.fit(y:Sw):Prop where
 kd:0<=y.x.kd/\y.x.kd<256
 role:0<=y.x.role/\y.x.role<256
 cap:y.x.bs.length<=y.c
end E
section
variable{P:Program}{n:E.Fr}{w0:World}{F:Nat->Prop}{K:E.Kt}{l:E.Env}{H:List E.HP}
namespace E
section
variable{o:Oper}
theorem OW.ti{ops:Array Oper}{rest:List Oper}{I:Env}(hc:zZ l I)(h:OW P n w0 F ops K rest I H):OW P n w0 F ops K rest l H:=fun a w ha M=>h a w (ha.ti hc) M
theorem QW.ti{ops:Array Oper}{rest:List Oper}{I:Env}(hc:zZ l I)(h:QW P n w0 F ops K rest I H):QW P n w0 F ops K rest l H:=fun a ha=>h a (ha.ti hc)
variable {ops:Array Oper}{rest:List Oper}
def OW.join(m:Nat)(ks:List Nat){fS:Env}(_hk:pick l ks=some fS)(I:Env)(h:OW P n w0 F ops K (rest.drop m) (I++fS) H->OW P n w0 F ops K rest l H)(M:OW P n w0 F ops K (rest.drop m) (I++fS) H):OW P n w0 F ops K rest l H:=h M
def QW.join(m:Nat)(ks:List Nat){fS:Env}(_hk:pick l ks=some fS)(I:Env)(h:QW P n w0 F ops K (rest.drop m) (I++fS) H->QW P n w0 F ops K rest l H)(M:QW P n w0 F ops K (rest.drop m) (I++fS) H):QW P n w0 F ops K rest l H:=h M
end
end E
namespace E
section
variable{α:Type}{o:Oper}{kk:α->Value}{lit:α->Lit}{ok:α->Prop}{f:α->Option Value}
def Vg{P:Program}{t k e:Nat}(ht:P.underlying t=some (.map k e))(hk:P.underlying k=some (.int .u8)):Mk P t k e (Value.int .u8) (Lit.int .u8) (fun a=>0<=a/\a<256):=
 ⟨Maps.int_keyed hk,ht,fun a ha=>Maps.keyOf_int_mk hk (Au.Rr ha),fun a b h=>by injection h⟩
variable {ops:Array Oper}{rest:List Oper}{ts:Array TypeId}{vs:bi}{xs:List Operand}
def OW.Vu[DecidableEq α]{t k e B i m:Nat}{x y u:Operand}{a:α}{v:Value}{H':List HP}(M:Mk P t k e kk lit ok)(ho:o.op=.insert t x y u)(hg:gd ops l o.guard=some true)(hd:o.dst=none)(hx:ev l x=some (.map (some B)))(hy:ev l y=some (kk a))(hu:ev l u=some v)(hi:E.sel H i=some (HP.mv P k B m lit f,H'))(hok:ok a)(hm:m<maxLen)(kt:OW P n w0 F ops K rest l (HP.mv P k B (m+1) lit (eh f a v)::H')):OW P n w0 F ops K (o::rest) l H:=
 OW.act hg hd (fun ac w ha hw=>by
  obtain⟨D,h1,h2,h3,h4⟩:=hw.mv hi
  have I:=M.key a hok
  have Z:=M.K.key I
  obtain⟨w',hrun,g1,g2⟩:=h1.store M.K M.ht hm I (d:=.held v) (ps:=[]) rfl
  have Q:=g2.grown
  refine⟨w',by simp[execOp,ho,ha.ev hx,ha.ev hy,ha.ev hu,hrun,Result.andThen],?_⟩
  refine(hw.sel hi).write (Hn:=[HP.mv P k B (m+1) lit (eh f a v)]) fun S hS hB=>⟨Q.os,Q.tape,Q.output,Q.size,fun q hq hn=>Q.block q hq (fun e=>hn ((hS.1 q).2 (by injection e))),S,⟨hS.1,_,g1,?_,?_,?_⟩,fun q hq=>⟨br (hB q hq).1 Q.size,fun hh=>hh.2 hq⟩,trivial⟩
  ·intro b z
   unfold eh
   by_cases hb:b=a
   ·subst hb;rw[aa rfl,Maps.atKey_put_same h1.isMap Z];rfl
   ·rw[ae hb,Maps.atKey_put_other (fun he=>hb (M.inj _ _ he)),h2]
  ·intro b
   unfold eh
   by_cases hb:b=a
   ·subst hb;rw[aa rfl,Maps.has_put_same h1.isMap Z];rfl
   ·rw[ae hb,Maps.has_put_other (fun he=>hb (M.inj _ _ he)),h3]
  ·intro kl hh
   by_cases hb:kl=lit a
   ·exact⟨a,hb⟩
   ·rw[Maps.has_put_other hb] at hh;exact h4 kl hh) kt
def Kk{o:Oper}{a:Act}{w:World}{f:Nat}{M:Operand}{us:bi}(hf:Nm P f)(I:a.eval M=.func (.func f) us.toArray #[])(ho:o.op=.call {callee:=.value M,args:=xs.toArray,argTypes:=ts})(hx:xs.map a.eval=vs):
  (execOp a.eval o).run P w=.ok (.enter f (us++vs).toArray) w:=by
 obtain⟨Q,h1,Z,h3⟩:=hf;have hb:Q.body≠none:=by intro h;rw[h] at Z;cases Z
 have hn:Q.name≠ "runtime.NumGoroutine" :=by simpa using h3
 simp[execOp,ho,resolve,Deferred.ofValue,invoke,callFunc,program,Sem.run,h1,hn,hb,I,hx]
def OW.L0{d:Nat}{fo:Operand}{u:Value}(hg:gd ops l o.guard=some true)(hd:o.dst=some d)(hn:Nat.blt d n.sz=true)(ho:o.op=.call {callee:=.value fo,args:=xs.toArray,argTypes:=ts})(M:ev l fo=some u)(hx:evs l xs=some vs)(R:Value->List HP->Prop)(i:Nat){p:HP}{H':List HP}(hi:E.sel H i=some (p,H'))(h:∃f us,u=.func (.func f) (List.toArray us) #[]/\Nm P f/\∀w S,HA w0 F (p::H') w->p.bA S w->(∀k,S k->k<w.heap.size/\¬F k)->Calls P f (us++vs).toArray w (bK w (Fm w S) R))(k:∀v Hn,R v Hn->OW P n w0 F ops K rest ((d,v)::l) (Hn++H')):OW P n w0 F ops K (o::rest) l H:=fun a w ha hw=>by
 obtain⟨f,us,rfl,hf,h⟩:=h
 refine wpListIn_step fun K' Q=>?_
 rw[aa (ha.wanted hg)]
 refine gP (Kk hf (ha.ev M) ho (ha.evs hx)) ?_
 have I:=hw.perm (an hi)
 obtain⟨S,h1,h2,h3⟩:=I.chunks
 refine(h w S I h1 h2).mono fun e w' ⟨v,Hn,he,hR,Z⟩=>?_
 refine⟨v,he,?_⟩
 rw[hd]
 exact Q _ _ (k v Hn hR _ _ (ha.put hn v) (I.turn h2 h3 Z))
end
end E
namespace Au
open Gw
def Ki{l:List Mt}{key:ap}{tn:Int}{t:Tk}{I now:Int}(h:auth l key tn t I now=0):1<=I/\I<=6:=by
 unfold auth at h;split at h
 ·have M:cnd l key tn t I now 0=true:=by
   cases hc:cnd l key tn t I now 0 with
   |true=>rfl
   |false=>rw[vW (k:=0) K1 (fun j Q=>by omega) hc] at h;cases h
  simp only[cnd,ay,ax] at M;exact M.2
 rename_i hc;exact absurd h hc
end Au
namespace Wi
open Gw
theorem T5:Rq.z.fit:=⟨z8,jd,z8,z8,z4⟩
def uF(b:ap):(dT b).1.fit:=by
 grind [dT,split,T5,DL,vu]
def UK{g:Lg}(hf:g.fit){tk kd cd:Int}(ht:0<=tk)(hk:0<=kd){b:ap}(h:(app g tk kd cd b).2=0):(app g tk kd cd b).1.fit:=by
 unfold app at h⊢;split at h
 ·rename_i M;rw[aa M];split at h
  ·rename_i I;rw[aa I];split at h
   ·cases h
   rename_i h3;rw[ae h3];have:=hf.dF
   have Q:qF ⟨tk,kd,cd,z32⟩=true:=by
    unfold link at I;split at I
    ·assumption
    cases I
   unfold qF rH at Q;simp only[ay,ax] at Q;obtain⟨v1,v2,v3,v4⟩:=Q;refine⟨⟨by show 0<=g.dF+1;omega,by show g.dF+1<4294967296;omega⟩,Di _ _ _ _ _,fun r hr=>?_,?_⟩
   ·rcases aN.1 hr with Z|Z
    ·exact hf.rs r (List.mem_of_mem_drop Z)
    rw[bw.1 Z];exact⟨by show 0<=tk/\tk<_;omega,by show 0<=kd/\kd<_;omega,by show E.gE cd;unfold E.gE;omega,Di _ _ _ _ _⟩
   show(g.rs.drop (g.rs.length-31)++[_]).length<=100000;rw[aF,bN,List.length_singleton];omega
  rename_i I;exact absurd h I
 rename_i M;exact absurd h M
end Wi
namespace Gw
open Tr (ai bL)
def Rn(fr:ap):Int:=if(Wi.dT fr).2=0 then(Wi.dT fr).1.kd else 0
noncomputable def lK(g:Cf.C)(key:ap)(t:Int)(s:S)(fr:ap):S×Rp×Int:=
 if lQ Wi.ops key t s.f.tk (ak s t.toNat) fr=0 then
  (after s t.toNat (aR Wi.ops (Cr.ev g t) s.f.tk (ai s.f t.toNat) (ak s t.toNat) (Wi.dT fr).1).1 (aR Wi.ops (Cr.ev g t) s.f.tk (ai s.f t.toNat) (ak s t.toNat) (Wi.dT fr).1).2.1,
   {(if(aR Wi.ops (Cr.ev g t) s.f.tk (ai s.f t.toNat) (ak s t.toNat) (Wi.dT fr).1).2.2.2=0 then(aR Wi.ops (Cr.ev g t) s.f.tk (ai s.f t.toNat) (ak s t.toNat) (Wi.dT fr).1).2.2.1 else Rp.z) with kd:=(Wi.dT fr).1.kd},
   (aR Wi.ops (Cr.ev g t) s.f.tk (ai s.f t.toNat) (ak s t.toNat) (Wi.dT fr).1).2.2.2)
 else(s,{Rp.z with kd:=Rn fr},lQ Wi.ops key t s.f.tk (ak s t.toNat) fr)
noncomputable def rep(g:Cf.C)(key:ap)(t:Int)(s:S)(fr:ap):Rp:={(lK g key t s fr).2.1 with cd:=(lK g key t s fr).2.2,tk:=s.f.tk}
def CH(s:S)(t:Nat)(g:Lg):S:={s with ac:=s.ac.set t {ak s t with log:=g}}
noncomputable def mz(g:Cf.C)(key:ap)(t:Int)(s:S)(fr:ap):S:=ej s t.toNat (answer Wi.ops (Cr.ev g t) key t s.f.tk (ai s.f t.toNat) (ak s t.toNat) fr).1 (answer Wi.ops (Cr.ev g t) key t s.f.tk (ai s.f t.toNat) (ak s t.toNat) fr).2.1 []
noncomputable def pD(g:Cf.C)(key:ap)(t:Int)(s:S)(fr:ap):Rp:=(answer Wi.ops (Cr.ev g t) key t s.f.tk (ai s.f t.toNat) (ak s t.toNat) fr).2.2
section
variable{g:Cf.C}{key:ap}{t:Int}{s:S}{fr:ap}{n:Nat}
variable {lg:Lg}{u:Nat}{w:Cr.W}
def nH{a:Ac}{os:List Ou}(I:u<s.ac.length):ak (ej s u w a os) u=a:=by
 have:=qw (s:=s) (t:=u) (u:=u) (w:=w) (a:=a) (os:=os) I;rwa[aa rfl] at this
def KV{a:Ac}(I:u<s.ac.length):CH (ej s u w a []) u lg=ej s u w {a with log:=lg} []:=by
 unfold CH;rw[nH I];show(⟨_,(s.ac.set u a).set u _,_⟩:S)=⟨_,s.ac.set u _,_⟩;rw[List.set_set];rfl
def AA{c:Prop}[Decidable c]{a b:Ac}:ej s u w (if c then a else b) []=if c then ej s u w a [] else ej s u w b []:=by split<;>rfl
def GQ{α:Type}{c:Prop}[Decidable c]{a b I b':α}(M:a=I)(Q:b=b'):(if c then a else b)=(if c then I else b'):=by rw[M,Q]
def Ke(hc:u<s.f.cs.length):CH s u lg=ej s u (ai s.f u) {ak s u with log:=lg} []:=by
 unfold CH ej;rw[Tr.pj hc,bp]
def TP(I:t.toNat<s.ac.length):(ak (lK g key t s fr).1 t.toNat).log=(ak s t.toNat).log:=by
 unfold lK;split
 ·show(ak (ej _ _ _ _ _) _).log=_;rw[nH I]
 rfl
def nw(h:lQ Wi.ops key t s.f.tk (ak s t.toNat) fr=0):lK g key t s fr=(after s t.toNat (aR Wi.ops (Cr.ev g t) s.f.tk (ai s.f t.toNat) (ak s t.toNat) (Wi.dT fr).1).1 (aR Wi.ops (Cr.ev g t) s.f.tk (ai s.f t.toNat) (ak s t.toNat) (Wi.dT fr).1).2.1,
   {(if(aR Wi.ops (Cr.ev g t) s.f.tk (ai s.f t.toNat) (ak s t.toNat) (Wi.dT fr).1).2.2.2=0 then(aR Wi.ops (Cr.ev g t) s.f.tk (ai s.f t.toNat) (ak s t.toNat) (Wi.dT fr).1).2.2.1 else Rp.z) with kd:=(Wi.dT fr).1.kd},
   (aR Wi.ops (Cr.ev g t) s.f.tk (ai s.f t.toNat) (ak s t.toNat) (Wi.dT fr).1).2.2.2):=aa h
def QL(h:lQ Wi.ops key t s.f.tk (ak s t.toNat) fr=0)(hd:¬(aR Wi.ops (Cr.ev g t) s.f.tk (ai s.f t.toNat) (ak s t.toNat) (Wi.dT fr).1).2.2.2=0):(lK g key t s fr).2.1={Rp.z with kd:=(Wi.dT fr).1.kd}:=by rw[nw h,ae hd]
def OZ(h:lQ Wi.ops key t s.f.tk (ak s t.toNat) fr=0)(hd:(aR Wi.ops (Cr.ev g t) s.f.tk (ai s.f t.toNat) (ak s t.toNat) (Wi.dT fr).1).2.2.2=0):(lK g key t s fr).2.1={(aR Wi.ops (Cr.ev g t) s.f.tk (ai s.f t.toNat) (ak s t.toNat) (Wi.dT fr).1).2.2.1 with kd:=(Wi.dT fr).1.kd}:=by rw[nw h,aa hd]
def O9(h:¬lQ Wi.ops key t s.f.tk (ak s t.toNat) fr=0):lK g key t s fr=(s,{Rp.z with kd:=Rn fr},lQ Wi.ops key t s.f.tk (ak s t.toNat) fr):=ae h
def Iv(h:(Wi.dT fr).2=0):lQ Wi.ops key t s.f.tk (ak s t.toNat) fr=Au.auth (ak s t.toNat).ring key t (Wi.dT fr).1.tok (Wi.dT fr).1.kd s.f.tk:=aa h
def Iu(h:¬(Wi.dT fr).2=0):lQ Wi.ops key t s.f.tk (ak s t.toNat) fr=(Wi.dT fr).2:=ae h
def Jy(h:lQ Wi.ops key t s.f.tk (ak s t.toNat) fr=0):1<=(Wi.dT fr).1.kd/\(Wi.dT fr).1.kd<=6:=by
 by_cases hd:(Wi.dT fr).2=0
 ·rw[Iv hd] at h;exact Au.Ki h
 rw[Iu hd] at h;exact absurd h hd
def qa(hc:t.toNat<s.f.cs.length)(I:t.toNat<s.ac.length)(h:(ak s t.toNat).log.dF=4294967295):mz g key t s fr=s/\pD g key t s fr={Rp.z with cd:=9,tk:=s.f.tk}:=by
 unfold mz pD answer;rw[aa h];exact⟨kP hc I,rfl⟩
def zY(h:¬(ak s t.toNat).log.dF=4294967295):pD g key t s fr=rep g key t s fr:=by
 unfold pD answer rep lK;rw[ae h];by_cases he:lQ Wi.ops key t s.f.tk (ak s t.toNat) fr=0
 ·rw[aa he,aa he];rfl
 rw[ae he,ae he];rfl
def vO(hc:t.toNat<s.f.cs.length)(I:t.toNat<s.ac.length)(h:¬(ak s t.toNat).log.dF=4294967295):
  mz g key t s fr=if(Wi.app (ak s t.toNat).log s.f.tk (rep g key t s fr).kd (rep g key t s fr).cd fr).2=0 then CH (lK g key t s fr).1 t.toNat (Wi.app (ak s t.toNat).log s.f.tk (rep g key t s fr).kd (rep g key t s fr).cd fr).1 else(lK g key t s fr).1:=by
 unfold mz answer rep lK;rw[ae h];by_cases he:lQ Wi.ops key t s.f.tk (ak s t.toNat) fr=0
 ·rw[aa he,aa he];exact AA.trans (GQ (KV (s:=s) (a:={ak s t.toNat with ring:=_}) I).symm rfl)
 rw[ae he,ae he];exact AA.trans (GQ (Ke hc).symm (kP hc I))
def Of(Q:Cf.check g=0)(I:SI g s n)(hp:Cf.ag g.ts t=true):SI g (lK g key t s fr).1 n:=by
 obtain⟨Z,hc,hu⟩:=I.tc hp;have M:Tr.Pr g t.toNat:=by unfold Tr.Pr;rw[af Z];exact hp
 have hT:=Tr.iF Q M;unfold lK;split
 ·refine I.set ?_ ⟨(gI I t.toNat).log,(gI I t.toNat).fm⟩;refine I.fi.keeps Q M ?_;have hV:=I.fi.cr _ M;rw[af Z] at hT hV⊢;exact DO (Cr.fy hT) I.fi.tk hV _ _
 exact I
def UT(I:SI g s n)(M:lg.fit):SI g (CH s u lg) n:=
 ⟨I.fi,by show(s.ac.set u _).length=_;rw[aM];exact I.al,fun x Q=>(ig Q).elim (I.ac x) (fun e=>e▸⟨M,(gI I u).fm⟩),I.ol⟩
end
end Gw
namespace E
def Si.Tc{z:Si}{s:Gw.S}(h:z.q=s){t:Nat}{y:Aw}{lg:Gw.Lg}(I:y.a={Gw.ak s t with log:=lg}):(Si.mk z.f (z.ws.set t y) z.AO z.cO z.os).q=Gw.CH s t lg:=by
 unfold Gw.CH;rw[<-I];subst h;show(⟨z.f.q,(z.ws.set t y).map Aw.a,_⟩:Gw.S)=_;rw[mc];rfl
end E
namespace Gw
open Tr (ai bL)
def said(s:S)(t:Int)(r:Rp):S:={s with outs:=s.outs++[out Wi.ops t r]}
noncomputable def rG(g:Cf.C)(key:ap)(t:Int):S->List (ap)->S
 |s,[]=>s
 |s,fr::l=>rG g key t (said (mz g key t s fr) t (pD g key t s fr)) l
def xf(s:S)(t:Nat)(b:ap):S:={s with ac:=s.ac.set t {ak s t with fm:=b}}
section
variable{g:Cf.C}{key:ap}{t:Int}{s:S}{n:Nat}
def DH(l:List (ap))(fr:ap):∀s,rG g key t s (l++[fr])=said (mz g key t (rG g key t s l) fr) t (pD g key t (rG g key t s l) fr):=by
 induction l with
 |nil=>intro s;rfl
 |cons x l I=>intro s;exact I _
def Ug(fr:ap):0<=Rn fr/\Rn fr<256:=by
 unfold Rn;split
 ·exact(Wi.uF fr).kd
 omega
def Xu(fr:ap):0<=(rep g key t s fr).kd:=by
 unfold rep lK;split
 ·exact(Wi.uF fr).kd.1
 exact(Ug fr).1
def tH(M:Cf.check g=0)(I:SI g s n)(hp:Cf.ag g.ts t=true)(fr:ap):SI g (mz g key t s fr) n:=by
 obtain⟨h0,hc,Q⟩:=I.tc hp;by_cases hf:(ak s t.toNat).log.dF=4294967295
 ·rw[(qa hc Q hf).1];exact I
 rw[vO hc Q hf];have Z:=Of (key:=key) (fr:=fr) M I hp;split
 ·rename_i h;exact UT Z (Wi.UK (gI I t.toNat).log I.fi.tk.1 (Xu fr) h)
 exact Z
variable {b:ap}{k:Int}{os:List Ou}{u:Nat}{w:Cr.W}
def ac1{p:Int}(h:(Rt.allowed g t p k).1=true):0<=p/\p<(g.l.length:Int):=by
 grind [Rt.allowed,Rt.on]
def F6(I:Rt.fB g t)(v:Cr.V (Cr.ev g t) k w):∀x∈jZ w,x.fit:=by
 intro x M;obtain⟨r,Q,rfl⟩:=cm.1 M;obtain⟨i,hi,rfl⟩:=eC Q;have hg:=v.rt i hi;have e:Cr.at_ w.rs i=w.rs[i]:=by grind [Cr.at_]
 rw[e] at hg;have hp:=ac1 (g:=g) (t:=t) (k:=k) hg.al;have Z:=Rt.gj I.c;have hl:=v.bk.l;have hf:=hg.fit;unfold Cr.Fit Cr.dK at hf;refine⟨by show E.gE w.rs[i].pl;unfold E.gE;omega,by show 0<=w.rs[i].st/\w.rs[i].st<256;omega,by show E.gE w.rs[i].od;unfold E.gE;omega⟩
def EM(w:Cr.W):(jZ w).length=w.rs.length:=bZ ..
def KI{lg:Lg}(I:lg.fit)(q:Int):(∀r∈(Wi.since lg q).1,r.fit)/\(Wi.since lg q).1.length<=1000:=by
 unfold Wi.since;split
 ·rename_i h;have Q:=Wi.uk h;refine⟨fun r M=>I.rs r (List.mem_of_mem_drop M),?_⟩;grind
 grind
def Rp.fit.of{r r':Rp}(h:r.fit)(Q:r'.tok=r.tok:=by rfl)(I:r'.jb=r.jb:=by rfl)(M:r'.kS=r.kS:=by rfl):r'.fit:=⟨Q▸h.tok,I▸h.jb,M▸h.kS,I▸h.rl,M▸h.cl⟩
def KQ(I:Cf.check g=0)(Q:SI g s n)(hp:Cf.ag g.ts t=true)(q:Rq):(aR Wi.ops (Cr.ev g t) s.f.tk (ai s.f t.toNat) (ak s t.toNat) q).2.2.1.fit:=by
 obtain⟨h0,hc,hu⟩:=Q.tc hp;have M:Tr.Pr g t.toNat:=by grind [Tr.Pr]
 have hT:=Tr.iF I M;have Z:=Q.fi.cr _ M;rw[af h0] at hT Z;have hrl:=Z.len;have hs:=KI (gI Q t.toNat).log q.num;unfold aR;split
 ·exact eW.of
 split
 ·exact eW.of
 split
 ·exact eW.of
 split
 ·refine⟨Wi.jd,F6 hT Z,fun r hr=>(by cases hr),?_,bF _⟩
  show(jZ _).length<=1000;rw[EM,hrl];have hb:=Rt.dS hp;have:=(Cf.vj (g:=g) (t:=Rt.bQ g t) (Cf.az I).2.2.1 (Cf.qX K1)).1;show(Rt.bQ g t).h.length<=1000;omega
 split
 ·exact⟨Wi.jd,fun r hr=>(by cases hr),hs.1,bF _,hs.2⟩
 exact eW.of
def BA(M:Cf.check g=0)(Q:SI g s n)(hp:Cf.ag g.ts t=true)(fr:ap):(pD g key t s fr).fit:=by
 obtain⟨h0,hc,Z⟩:=Q.tc hp;by_cases hf:(ak s t.toNat).log.dF=4294967295
 ·rw[(qa hc Z hf).2];exact eW.of
 rw[zY hf];have h2:=KQ M Q hp (Wi.dT fr).1;by_cases he:lQ Wi.ops key t s.f.tk (ak s t.toNat) fr=0
 ·by_cases hd:(aR Wi.ops (Cr.ev g t) s.f.tk (ai s.f t.toNat) (ak s t.toNat) (Wi.dT fr).1).2.2.2=0
  ·have I:=OZ he hd;exact h2.of (by unfold rep;rw[I]) (by unfold rep;rw[I]) (by unfold rep;rw[I])
  have I:=QL he hd;exact eW.of (by unfold rep;rw[I]) (by unfold rep;rw[I]) (by unfold rep;rw[I])
 have I:=O9 (g:=g) he;exact eW.of (by unfold rep;rw[I]) (by unfold rep;rw[I]) (by unfold rep;rw[I])
def yp(I:SI g s n)(t:Int)(r:Rp):SI g (said s t r) (n+1):=I.say _
def L1(I:SI g s n)(M:b.length<=4160):SI g (xf s u b) n:=
 ⟨I.fi,by show(s.ac.set u _).length=_;rw[aM];exact I.al,fun x Q=>(ig Q).elim (I.ac x) (fun e=>e▸⟨(gI I u).log,M⟩),I.ol⟩
def Eh{r:Rp}(h:r.fit){c tk:Int}:({r with kd:=k,cd:=c,tk:=tk}:Rp).fit:=⟨h.tok,h.jb,h.kS,h.rl,h.cl⟩
def iy{ys:List E.Yb}{k:Nat}(h:k<ys.length):(ys.take (k+1)).map E.Yb.l=(ys.take k).map E.Yb.l++[(ys.getD k E.Yb.z).l]:=by
 grind [List.take_add_one]
def Le{M:Cr.W}{a Q:Ac}{I:List Ou}:ej (ej s u w a os) u M Q I=ej s u M Q (os++I):=by
 unfold ej bL;simp_all
def I4{a:Ac}(hc:u<s.f.cs.length):ai (ej s u w a os).f u=w:=by
 show(s.f.cs.set u w).getD u Cr.W.z=w;simp_all
def rq(hc:u<s.f.cs.length)(ha:u<s.ac.length):ej s u (ai s.f u) (ak s u) os={s with outs:=s.outs++os}:=by
 unfold ej;rw[Tr.pj hc,yr ha]
def YL:∀(l:List (ap)) (s:S),t.toNat<s.f.cs.length->t.toNat<s.ac.length->rG g key t s l=ej s t.toNat (answers Wi.ops (Cr.ev g t) key t s.f.tk (ai s.f t.toNat) (ak s t.toNat) l).1 (answers Wi.ops (Cr.ev g t) key t s.f.tk (ai s.f t.toNat) (ak s t.toNat) l).2.1 (answers Wi.ops (Cr.ev g t) key t s.f.tk (ai s.f t.toNat) (ak s t.toNat) l).2.2:=by
 intro l;induction l with
 |nil=>intro s hc ha;show s=ej s t.toNat (ai s.f t.toNat) (ak s t.toNat) [];rw[rq hc ha,bp]
 |cons fr l I=>
  intro s hc ha
  have M:said (mz g key t s fr) t (pD g key t s fr)=ej s t.toNat (answer Wi.ops (Cr.ev g t) key t s.f.tk (ai s.f t.toNat) (ak s t.toNat) fr).1 (answer Wi.ops (Cr.ev g t) key t s.f.tk (ai s.f t.toNat) (ak s t.toNat) fr).2.1 [out Wi.ops t (pD g key t s fr)]:=by
   grind [said,mz,ej]
  show rG g key t (said (mz g key t s fr) t (pD g key t s fr)) l=_;rw[M]
  have Q:t.toNat<(ej s t.toNat (answer Wi.ops (Cr.ev g t) key t s.f.tk (ai s.f t.toNat) (ak s t.toNat) fr).1 (answer Wi.ops (Cr.ev g t) key t s.f.tk (ai s.f t.toNat) (ak s t.toNat) fr).2.1 [out Wi.ops t (pD g key t s fr)]).f.cs.length:=by
   show _<(s.f.cs.set _ _).length;grind
  have Z:t.toNat<(ej s t.toNat (answer Wi.ops (Cr.ev g t) key t s.f.tk (ai s.f t.toNat) (ak s t.toNat) fr).1 (answer Wi.ops (Cr.ev g t) key t s.f.tk (ai s.f t.toNat) (ak s t.toNat) fr).2.1 [out Wi.ops t (pD g key t s fr)]).ac.length:=by
   show _<(s.ac.set _ _).length;grind
  rw[I _ Q Z,I4 hc,nH ha,Le];rfl
def Er{a:Ac}(I:u<s.ac.length):xf (ej s u w a os) u b=ej s u w {a with fm:=b} os:=by
 unfold xf;rw[nH I];show(⟨_,(s.ac.set u a).set u _,_⟩:S)=⟨_,s.ac.set u _,_⟩;rw[List.set_set];rfl
def vL{x:St}(hk:x.kd=2)(M:SI g s n)(hp:Cf.ag g.ts x.tn=true)(Q:x.bs.length<=4096)(Z:(Wi.split ((ak s x.tn.toNat).fm++x.bs)).2.2=0):
  step Wi.ops g key s x=xf (rG g key x.tn s (Wi.split ((ak s x.tn.toNat).fm++x.bs)).1) x.tn.toNat (Wi.split ((ak s x.tn.toNat).fm++x.bs)).2.1:=by
 obtain⟨h0,hc,I⟩:=M.tc hp;rw[YL _ s hc I,Er I];unfold step;rw[ae K1,aa hp,aa hk];unfold iw;rw[aa Q,aa (show(Wi.ops.split _).2.2=0 from Z)];rfl
theorem nI{x:St}(hk:x.kd=2)(M:SI g s n)(hp:Cf.ag g.ts x.tn=true)(h:4096<x.bs.length\/¬(Wi.split ((ak s x.tn.toNat).fm++x.bs)).2.2=0):step Wi.ops g key s x=s:=by
 obtain⟨Q,hc,I⟩:=M.tc hp;unfold step;rw[ae K1,aa hp,aa hk];unfold iw;by_cases hb:x.bs.length<=4096
 ·rw[aa hb,ae (show¬(Wi.ops.split _).2.2=0 from h.resolve_left K1)];show ej s _ (ai s.f _) (ak s _) []=s;rw[rq hc I,bp]
 rw[ae hb];show ej s _ (ai s.f _) (ak s _) []=s;rw[rq hc I,bp]
end
end Gw
namespace E
def Si.SO{z:Si}{s:Gw.S}(h:z.q=s){t:Nat}{y:Aw}{b:ap}(I:y.a={Gw.ak s t with fm:=b}):(Si.mk z.f (z.ws.set t y) z.AO z.cO z.os).q=Gw.xf s t b:=by
 unfold Gw.xf;rw[<-I];subst h;show(⟨z.f.q,(z.ws.set t y).map Aw.a,_⟩:Gw.S)=_;rw[mc];rfl
end E
namespace Gw
open Tr (ai bL)
def aaJ:Rp:={Rp.z with kd:=17,cd:=280,tk:=Od.last}
def kA(g:Cf.C)(s:S)(k:Nat):S:={s with outs:=s.outs++halted Wi.ops g k}
def YB(k:Int)(x:Int×Int):Rp:={Rp.z with kd:=16,tk:=k+1,od:=x.2}
noncomputable def lT(g:Cf.C)(s:S)(k:Nat):S:=⟨(Tr.step g s.f).1,s.ac,s.outs++((Tr.step g s.f).2.take k).map fun x=>out Wi.ops x.1 (YB s.f.tk x)⟩
section
variable{g:Cf.C}{s:S}{n:Nat}
def YM:kA g s 0=s:=by unfold kA halted;rw[bp]
variable {k:Nat}{key:ap}
def NG(h:Cf.ag g.ts (k:Int)=true):kA g s (k+1)=said (kA g s k) (k:Int) aaJ:=by
 unfold kA said;conv=>lhs;unfold halted
 rw[aa h,aQ];rfl
def R4(h:Cf.ag g.ts (k:Int)=false):kA g s (k+1)=kA g s k:=by
 grind [kA,halted]
def Nn:∀k,(halted Wi.ops g k).length<=k:=by
 intro k;induction k with
 |zero=>exact bb _
 |succ k I=>
  grind [halted]
def GK(I:SI g s n)(k:Nat):(kA g s k).outs.length<=n+k:=by
 have:=Nn (g:=g) k;have:=I.ol;show(s.outs++halted Wi.ops g k).length<=n+k;grind
def qz{x:St}(hk:x.kd=1)(h:s.f.tk=4611686018427387904):step Wi.ops g key s x=kA g s s.ac.length:=by
 unfold step tick;rw[aa hk,aa (show s.f.tk=Od.last from h)];rfl
def rE{x:St}(hk:x.kd=1)(h:¬s.f.tk=4611686018427387904)(I:(Tr.step g s.f).2.length<=k):step Wi.ops g key s x=lT g s k:=by
 unfold step tick lT;rw[aa hk,ae (show¬s.f.tk=Od.last from h),bU I];rfl
def Kx(h:k<(Tr.step g s.f).2.length):lT g s (k+1)=said (lT g s k) ((Tr.step g s.f).2.getD k (0,0)).1 (YB s.f.tk ((Tr.step g s.f).2.getD k (0,0))):=by
 grind [lT,said,List.take_add_one]
def Hb(I:SI g s n)(k:Nat):(lT g s k).outs.length<=n+k:=by
 have:=I.ol;show(s.outs++((Tr.step g s.f).2.take k).map _).length<=n+k;grind
theorem mH{x:St}(h:¬(1<=x.kd/\x.kd<=4)):step Wi.ops g key s x=s:=by
 grind [step]
end
end Gw
namespace E
def Si.RC{z:Si}{s:Gw.S}(h:z.q=s){I:Fe}{g:Cf.C}(M:I.q=(Tr.step g s.f).1):(Si.mk I z.ws z.AO z.cO z.os).q=Gw.lT g s 0:=by
 subst h;unfold Gw.lT;rw[qq,ki,bp,<-M];rfl
end E
namespace E
def WY{n k:Nat}:((List.replicate n Aw.z).getD k Aw.z)=Aw.z:=by
 grind
def RT:∀{ws:List Aw} {n:Nat},ws.length=n->(∀x∈ws,x.a=Gw.Ac.z)->ws.map Aw.a=List.replicate n Gw.Ac.z:=by
 intro ws;induction ws with
 |nil=>grind
 |cons x ws I=>
  grind
theorem zP{X:Sx}{f:Fe}{ws:List Aw}{A:am}{c:Nat}{os:List Ow}(hl:ws.length=X.nA)(I:∀x∈ws,x.a=Gw.Ac.z):(Si.mk f ws A c os).ok X:=⟨hl,fun x M=>by rw[I x M];exact bF _⟩
def J0(L:Mem)(ws:List Aw)(A:am)(c:Nat)(A2:am)(c2:Nat)(A3:am)(c3:Nat):L++yK (ws++[⟨Gw.Ac.z,A,c,A2,c2,A3,c3⟩])⊆[(A3,aA [])]++([(A2,fl Gw.Rc.cw [])]++([(A,fl Gw.Mt.cs [])]++((L++yK ws)++[]))):=fun p hp=>by
 simp only[yK,List.flatMap_append,List.flatMap_cons,List.flatMap_nil,bp,aN,bw] at hp⊢
 rcases hp with h|h|h
 ·simp[h]
 ·simp[h]
 ·simp only[Aw.mem,er,bg,or_false] at h
  rcases h with rfl|rfl|rfl
  ·exact .inr (.inr (.inl rfl))
  ·exact .inr (.inl rfl)
  ·exact .inl rfl
end E
namespace E
def Cw.of(w:Cr.W):Cw:=⟨w.rs,none,0,⟨w.b,none,0,none,0⟩,w.mv⟩
def Fe.of(f:Tr.F):Fe:=⟨f.cs.map Cw.of,none,0,f.cl,none,0,f.tk⟩
def Fe.KY(f:Tr.F):(Fe.of f).q=f:=by
 show(⟨(f.cs.map Cw.of).map Cw.q,f.cl,f.tk⟩:Tr.F)=f;rw[lu,show Cw.q∘Cw.of=id from rfl,td]
def Tm.of(t:Cf.T):Tm:=⟨t,none,none,none,0,0,0⟩
def aP.of(g:Cf.C):aP:=⟨g.a,g.b,g.l,g.s,g.ts.map Tm.of,g.st,none,0,none,0,none,0⟩
def aP.KY(g:Cf.C):(aP.of g).q=g:=by
 show(⟨g.a,g.b,g.l,g.s,(g.ts.map Tm.of).map (·.q),g.st⟩:Cf.C)=g;rw[lu,show(fun m:Tm=>m.q)∘Tm.of=id from rfl,td]
def qm{g:Cf.C}{f:Tr.F}(hc:Cf.check g=0)(I:Tr.FI g f):(Tr.step g f).2.length<=9:=by
 have M:=(GW (g:=aP.of g) (f:=Fe.of f) (by rw[aP.KY];exact hc) (by rw[aP.KY,Fe.KY];exact I) (Fe.of f).cs.length (bb _)).2
 rw[aP.KY,Fe.KY] at M;have Q:(Fe.of f).cs.length=f.cs.length:=bZ ..;rw[Q] at M;have Z:=(Cf.dw (Cf.az hc).2.2.1).2;have h4:=I.c;show(Tr.aT g f f.cs.length).2.2.length<=9;omega
def Tm.E4(m:Tm):Mem:=[(m.A1,ints m.q.h)]++([(m.A2,ints m.q.p)]++([(m.A3,ints m.q.d)]++[]))
instance Ro.tm{m:Tm}:Ro (HP.tm m) m.E4:=⟨fun S w h=>(Ro.h (p:=HP.dj [HP.row 3 1 m.A1 m.q.h.length m.c1 (ints m.q.h),HP.row 3 1 m.A2 m.q.p.length m.c2 (ints m.q.p),HP.row 3 1 m.A3 m.q.d.length m.c3 (ints m.q.d)]) S w h:dc w S _)⟩
def qE:List Tm->Mem
 |[]=>[]
 |m::r=>m.E4++qE r
theorem LM:∀ts:List Tm,Ro (HP.dj (ts.map HP.tm)) (qE ts)
 |[]=>Ro.nil
 |m::r=> @Ro.cons (HP.tm m) (r.map HP.tm) m.E4 (qE r) Ro.tm (LM r)
instance Ro.tms{ts:List Tm}:Ro (HP.tms ts) (qE ts):=LM ts
def aP.mem(g:aP):Mem:=[(g.A,aA g.l)]++([(g.A1,aA g.s)]++([(g.A2,E.tms g.ts)]++(qE g.ts++[])))
instance Ro.cfg{g:aP}:Ro (HP.cfg g) g.mem:=⟨fun S w h=>(Ro.h (p:=HP.dj [HP.row 5 1 g.A g.l.length g.c (aA g.l),HP.row 5 1 g.A1 g.s.length g.c1 (aA g.s),HP.row 65 8 g.A2 g.ts.length g.c2 (E.tms g.ts),HP.tms g.ts]) S w h:dc w S _)⟩
theorem xm{w:World}{G:Nat->Prop}:∀{ts:List Tm},dc w G (qE ts)->∀m∈ts,m.rd w G
 |x::r,h,m,I=>by
  rcases er.1 I with rfl|I
  ·have M:dc w G m.E4:=h.sub fun p hp=>iU _ hp
   exact⟨M (m.A1,ints m.q.h) (by simp[Tm.E4]),M (m.A2,ints m.q.p) (by simp[Tm.E4]),M (m.A3,ints m.q.d) (by simp[Tm.E4])⟩
  ·exact xm (h.sub fun p hp=>List.mem_append_right _ hp) m I
def Pa{l:List Sw}{k:Nat}(h:k<l.length):l.getD k Sw.z∈l:=by
 grind
def sS{l:List Sw}{k:Nat}(h:k<l.length):(l.take (k+1)).map Sw.x=(l.take k).map Sw.x++[(l.getD k Sw.z).x]:=by
 grind [List.take_add_one]
def Si.abN{z:Si}{s:Gw.S}(h:z.q=s):z.os.map Ow.o=s.outs:=by rw[<-h];rfl
def aP.abC{w:World}{G:Nat->Prop}{g:aP}(h:dc w G g.mem):g.rd w G:=
 ⟨h (g.A,aA g.l) (by simp[aP.mem]),h (g.A1,aA g.s) (by simp[aP.mem]),h (g.A2,E.tms g.ts) (by simp[aP.mem]),xm (h.sub fun p hp=>by simp only[aP.mem,aN];simp[hp])⟩
end E
namespace Wi
theorem WQ:∀(k:Nat) (b:ap),(sp k b).1.length<=k/\(sp k b).2.length<=b.length:=by
 intro k;induction k with
 |zero=>intro b;exact⟨bb _,bb _⟩
 |succ k I=>
  intro b;grind [sp]
def JX{b:ap}:(split b).1.length<=4160/\(split b).2.1.length<=4160:=by
 grind [split,WQ]
end Wi
namespace Gw
open Tr (ai bL)
section
variable{g:Cf.C}{key:ap}{s:S}{n:Nat}
def Wk(I:Cf.check g=0){t:Int}(hp:Cf.ag g.ts t=true):∀(l:List (ap)) (s:S) (n:Nat),SI g s n->SI g (rG g key t s l) (n+l.length):=by
 intro l;induction l with
 |nil=>intro s n h;exact h
 |cons fr l M=>
  intro s n h;have:=M _ _ (yp (tH (key:=key) I h hp fr) t (pD g key t s fr));exact this.more (by grind)
def xV(I:SI g s n){t:Nat}{w:Cr.W}{a:Ac}{os:List Ou}(M:Tr.FI g (bL s.f t w))(ha:a.ok)(ho:os.length<=1):SI g (ej s t w a os) (n+5000):=
 ⟨M,by show(s.ac.set t a).length=_;rw[aM];exact I.al,fun x Q=>(ig Q).elim (I.ac x) (fun e=>e▸ha),by have:=I.ol;show(s.outs++os).length<=_;grind⟩
def zQ(Q:Cf.check g=0)(I:SI g s n)(x:St):SI g (step Wi.ops g key s x) (n+5000):=by
 have M:=Tg (o:=Wi.ops) (key:=key) Q I.fi x;have h3:=(Cf.dw (Cf.az Q).2.2.1).2;have Z:=I.al;by_cases h1:x.kd=1
 ·by_cases hk:s.f.tk=4611686018427387904
  ·rw[qz h1 hk];exact⟨I.fi,I.al,I.ac,by have:=GK I s.ac.length;omega⟩
  rw[rE h1 hk (E.qm Q I.fi)] at M⊢;exact⟨M,I.al,I.ac,by have:=Hb I 9;omega⟩
 by_cases hp:Cf.ag g.ts x.tn=true
 ·obtain⟨h0,hc,hu⟩:=I.tc hp;by_cases h2:x.kd=2
  ·by_cases hb:x.bs.length<=4096
   ·by_cases he:(Wi.split ((ak s x.tn.toNat).fm++x.bs)).2.2=0
    ·rw[vL h2 I hp hb he];have hl:=Wi.JX (b:=(ak s x.tn.toNat).fm++x.bs);exact(L1 (Wk Q hp _ s n I) hl.2).more K1
    rw[nI h2 I hp (.inr he)];exact I.more K1
   rw[nI h2 I hp (.inl K1)];exact I.more K1
  by_cases h4:x.kd=4
  ·have ho:=gI I x.tn.toNat;by_cases he:(Wi.ops.bX (ak s x.tn.toNat).ring key x.tn x.role x.aG s.f.tk).2.2=0
   ·rw[kN h4 hp he] at M⊢;exact xV I M ⟨ho.log,ho.fm⟩ (bb _)
   by_cases h9:(Wi.ops.bX (ak s x.tn.toNat).ring key x.tn x.role x.aG s.f.tk).2.2=9
   ·rw[nP h4 hp h9] at M⊢;exact xV I M ho (bb _)
   rw[xL I h4 hp he h9];exact I.more K1
  by_cases h5:x.kd=3
  ·have ho:=gI I x.tn.toNat;rw[qR h5 hp] at M⊢;exact xV I M ⟨ho.log,ho.fm⟩ (bF _)
  rw[mH K1];exact I.more K1
 rw[xR h1 (by simpa using hp)];exact I.more K1
def Eo(I:Cf.check g=0)(M:0<=g.st/\g.st<=Od.last):SI g (new g) 0:=
 ⟨Tr.FI.new I M,eZ ..,fun a ha=>by rw[vn ha];exact zP,bb _⟩
def Cu(l:List St)(x:St):∀s,run Wi.ops g key s (l++[x])=step Wi.ops g key (run Wi.ops g key s l) x:=by
 induction l with
 |nil=>intro s;rfl
 |cons y l I=>intro s;exact I _
end
end Gw
namespace Gw
variable {l:List St}{t:Int}{x:St}
def Lv(h:gS t x=true):eA (l++[x]) t=eA l t++[x]:=by
 grind [eA]
def To(h:gS t x=false):eA (l++[x]) t=eA l t:=by
 grind [eA]
def Pj{l:List Ou}{x:Ou}(h:x.tn=t):port (l++[x]) t=port l t++[x]:=by
 grind [port]
def Tn{l:List Ou}{x:Ou}(h:¬x.tn=t):port (l++[x]) t=port l t:=by
 grind [port]
def C1:gS t x=true↔x.kd=1\/(x.tn=t/\2<=x.kd/\x.kd<=4):=by
 grind [gS]
def abn{x y:UInt8}(h:¬(x.toNat:Int)=(y.toNat:Int)):¬x=y:=fun e=>h (by rw[e])
def aa9{x y:Ou}(I:x.tn=y.tn)(M:x.tk=y.tk)(Q:x.bs=y.bs):x=y:=by cases x;cases y;simp_all
def Ye(h:x.kd=1\/(x.tn=t/\2<=x.kd/\x.kd<=4)):eA (l++[x]) t=eA l t++[x]:=Lv (C1.2 h)
def YX(h:¬(x.kd=1\/(x.tn=t/\2<=x.kd/\x.kd<=4))):eA (l++[x]) t=eA l t:=To (k8.2 (mt C1.1 h))
end Gw
namespace E
variable {k:Nat}{l:List Ow}
def Iw(h:k<l.length):(l.take (k+1)).map Ow.o=(l.take k).map Ow.o++[(l.getD k Ow.z).o]:=by
 grind [List.take_add_one]
def ED(h:k<l.length):l.getD k Ow.z∈l:=by
 grind
def NK{w:World}{G:Nat->Prop}(h:dc w G (j2 l))(hk:k<l.length):Rd w G (l.getD k Ow.z).A (aA (l.getD k Ow.z).o.bs):=h ((l.getD k Ow.z).A,_) (ft.2 ⟨_,ED hk,bw.2 rfl⟩)
def Yq{l:List Sw}{n:Nat}(h:∀j,j<l.length->(l.getD j Sw.z).x.bs.length<=n):∀y∈l,y.x.bs.length<=n:=fun y I=>by
 grind [List.mem_iff_getElem]
def SE{l:List Sw}{n:Nat}(h:∀j,j<k->(l.getD j Sw.z).x.bs.length<=n)(e:(l.getD k Sw.z).x.bs.length<=n):∀j,j<k+1->(l.getD j Sw.z).x.bs.length<=n:=fun j I=>by
 grind
def pA(os:List Ow)(o:Gw.Ou)(A:am)(c:Nat):j2 (os++[⟨o,A,c⟩])⊆[(A,aA o.bs)]++(j2 os++[]):=fun p hp=>by
 grind [xk,Ow.mem]
def wq(l:List Sw):Mem:=l.map fun y=>(y.A,aA y.x.bs)
theorem IN(l:List Sw)(y:Sw):wq (l++[y])=wq l++[(y.A,aA y.x.bs)]:=dZ ..
def pP(os:List Sw)(o:Gw.St)(A:am)(c:Nat):wq (os++[⟨o,A,c⟩])⊆[(A,aA o.bs)]++(wq os++[]):=fun p hp=>by
 grind [IN]
end E
namespace Wi
open Gw
def C6{r:Rp}(I:r.fit):(oz r).length<=60000:=by
 grind [Bh,oz,mM,Dg.eS]
end Wi
namespace Gw
def OB(l:List Ou):Prop:=∀x∈l,x.bs.length<=60000
def OB.nil:OB []:=fun x h=>by cases h
def OB.app{l m:List Ou}(I:OB l)(M:OB m):OB (l++m):=fun x h=>(aN.1 h).elim (I x) (M x)
def OB.one{t:Int}{r:Rp}(I:r.fit):OB [out Wi.ops t r]:=fun x h=>by
 rw[bw.1 h];exact Wi.C6 I
theorem OB.halt{g:Cf.C}:∀k,OB (halted Wi.ops g k)
 |0=>OB.nil
 |k+1=>by
  unfold halted
  split
  ·exact(OB.halt k).app (OB.one (Eh eW))
  ·exact OB.halt k
theorem OB.map{l:List (Int×Int)}{f:Int×Int->Rp}(h:∀x,(f x).fit):OB (l.map fun x=>out Wi.ops x.1 (f x)):=fun y I=>by
 obtain⟨x,_,rfl⟩:=cm.1 I
 exact Wi.C6 (h x)
section
variable{g:Cf.C}{key:ap}{s:S}{n:Nat}
theorem Oi(I:Cf.check g=0){t:Int}(hp:Cf.ag g.ts t=true):∀(l:List (ap)) (s:S) (n:Nat),SI g s n->OB s.outs->OB (rG g key t s l).outs
 |[],_,_,_,h=>h
 |fr::l,s,n,M,h=>Oi I hp l _ _ (yp (tH I M hp fr) _ _) (OB.app (by
   have:(mz g key t s fr).outs=s.outs:=by unfold mz;exact bp _
   rw[this];exact h) (OB.one (BA I M hp fr)))
def RF(M:Cf.check g=0)(Q:SI g s n)(I:OB s.outs)(x:St)(Z:0<=x.role/\x.role<256):OB (step Wi.ops g key s x).outs:=by
 by_cases h1:x.kd=1
 ·by_cases hk:s.f.tk=4611686018427387904
  ·rw[qz h1 hk];exact I.app (OB.halt _)
  rw[rE h1 hk (E.qm M Q.fi)];exact I.app (OB.map fun x=>⟨eW.tok,eW.jb,eW.kS,eW.rl,eW.cl⟩)
 by_cases hp:Cf.ag g.ts x.tn=true
 ·by_cases h2:x.kd=2
  ·by_cases hl:x.bs.length<=4096
   ·by_cases he:(Wi.split ((ak s x.tn.toNat).fm++x.bs)).2.2=0
    ·rw[vL h2 Q hp hl he];exact Oi M hp _ _ _ Q I
    rw[nI h2 Q hp (.inr he)];exact I
   grind [nI]
  by_cases h4:x.kd=4
  ·by_cases he:(Wi.ops.bX (ak s x.tn.toNat).ring key x.tn x.role x.aG s.f.tk).2.2=0
   ·rw[kN h4 hp he];exact I.app (OB.one (mu (Au.rp Z)))
   by_cases h9:(Wi.ops.bX (ak s x.tn.toNat).ring key x.tn x.role x.aG s.f.tk).2.2=9
   ·rw[nP h4 hp h9];exact I.app (OB.one (mu Wi.jd))
   rw[xL Q h4 hp he h9];exact I
  by_cases h5:x.kd=3
  ·rw[qR h5 hp];exact I.app OB.nil
  rw[mH K1];exact I
 rw[xR h1 (by simpa using hp)];exact I
theorem QH(I:Cf.check g=0):∀(l:List St) (s:S) (n:Nat),SI g s n->OB s.outs->(∀x∈l,0<=x.role/\x.role<256)->OB (run Wi.ops g key s l).outs
 |[],_,_,_,h,_=>h
 |x::l,s,n,M,h,Q=>QH I l _ _ (zQ I M x) (RF I M h x (Q x (jy ..))) fun y Z=>Q y (km _ Z)
end
end Gw
end
end Go.Proofs.YtcgecopggfjojaaGreatDoor
