/- Part 5: the logic, the plain laws and the walks behind TopAlone (lemmas only; each says its own conditions). -/
import Derived.WalkKit
import Derived.ProofKit
import Derived.OpenShut
import Derived.ShutString
import Derived.ChangeOld
import Derived.SizedLaws
import Derived.Deep.Slices
import Derived.KernelRfl
import Derived.Lib.Hide
import Derived.Test.YtcgecopggfjojaaGreatDoorK4
set_option maxRecDepth 100000
set_option linter.all false
set_option maxHeartbeats 0
namespace Go.Proofs.YtcgecopggfjojaaGreatDoor
open Go Go.RowKit Go.Proofs.Tryz E Fl Cf Od Bf Cr Rt Tr Gw Dg Au Wi
attribute [local irreducible] E.CW E.OW E.QW E.AW E.lJ E.blockK E.PV
namespace E
open Go Go.RowKit Go.WideShapes Go.ChangeShapes Go.ChangeAt
theorem HA.below{w w':World}{Hn:List HP}(h:HA w (Old w) Hn w'):Below w.heap.size w w':=⟨h.os,h.tape,h.output,h.size,fun k hk=>h.kept k hk⟩
section
variable{H:Type}{enc:TypeId×Value->H}{P:Program}
theorem Kh(hl:laidOutB P=true){W W':World}{sp:Nat->Bool}(hb:Below W.heap.size W W'):∀{ts:List TypeId} {vs:bi} {ds:List (DataW H)} {ps:List MemPlace},
  ts.all (fun t=>P.readableRec t&&decide (t<P.types.size))=true->DataW.TrodAll enc P W 0 (fun _=>true) true ts vs ds ps->(∀p∈ps,p.block<W.heap.size/\sp p.block=true)->
  DataW.TrodAll enc P W' 0 sp true ts vs ds ps:=by
 intro ts;induction ts with
 |nil=>
  intro vs ds ps _ h _;obtain⟨rfl,rfl,rfl⟩:=trodAll_nil h;exact trodAll_mk0
 |cons t ts ih=>
  intro vs ds ps hr h hp;obtain⟨v,vs',d,ds',p,q,rfl,rfl,rfl,h0,r0⟩:=trodAll_cons h;simp only[List.all_cons,ay,ax] at hr;refine trodAll_cons_mk (WideElems.Trod_stays hl hr.1.1 hr.1.2 h0 (fun x hx=>hb.same (hp x (by simp[hx])).1) (fun x hx=>(hp x (by simp[hx])).2)) (ih (by simpa using hr.2) r0 fun x hx=>hp x (by simp[hx]))
theorem Uv{f:Func}{s:ChangeSpec}{tb:TypeId}{W W':World}{args:Array Value}{ds gs:List (DataW H)}{before:List MemPlace}{Hn:List HP}
  (hl:laidOutB P=true) (hp:f.params.toList.all (fun t=>P.readableRec t&&decide (t<P.types.size))=true) (hsv:s.vars=[]) (hrt:f.resultTypes= #[tb]) (hb:P.underlying tb=some .bool)
  (hfn:∀gs,gs=[]->s.fn H (ds++gs)={results:=[.lit (.bool true)],args:=ds})
  (hW:DataW.Whole enc P f.params.toList s.vars false W args.toList ds gs before) (hA:HA W (Old W) Hn W'):
  s.post enc P f false true false false W args (.bool true) W':=by
 have hlt:∀p∈before,p.block<W.heap.size:=fun p hp=>hW.lt p hp;have hB:=hA.below;have hW0:=hW;obtain⟨p,q,hT,hV,hps,_,_⟩:=hW;rw[hsv] at hV;obtain⟨hg,hq⟩:=trodVars_none hV;have hf:=hfn gs hg;subst hg hq;have hpq:before=p:=by rw[hps];simp
 subst hpq;refine⟨ds,[],before,[],before,[],hW0,?_,?_,?_,World.keptBut_mono (fun x hx=>⟨hx,.inr (.inl hx)⟩) (hB.frame (·∈before)),fun h=>by cases h⟩
 ·rw[hf,hrt];exact trodAll_mk1 (shut_bool hb true)
 ·grind [Kh]
 rw[hf,hsv];rfl
theorem wf_i64{n:Int}(h:(Lit.int .i64 n).wf=true): -9223372036854775808<=n/\n<=9223372036854775807:=by
 grind [Lit.wf,IntKind.min,IntKind.max,IntKind.signed,IntKind.bits]
theorem wf_u64{n:Int}(h:(Lit.int .u64 n).wf=true):0<=n/\n<18446744073709551616:=by
 grind [Lit.wf,IntKind.min,IntKind.max,IntKind.signed,IntKind.bits]
theorem wf_u8{n:Int}(h:(Lit.int .u8 n).wf=true):0<=n/\n<256:=by
 grind [Lit.wf,IntKind.min,IntKind.max,IntKind.signed,IntKind.bits]
theorem aan{n:Int}(h:0<=n/\n<256):∃b:UInt8,n=(b.toNat:Int):=⟨UInt8.ofNat n.toNat,by
 rw[UInt8.toNat_ofNat']
 omega⟩
variable{w:World}{fuel:Nat}{cs:bi}{x:DataW H×List MemPlace}
theorem tk{t:TypeId}{k n:Nat}{xs:bi}{o:Option (DataW H×List MemPlace)}(h:DataW.trod enc P w 0 (fun _=>true) true n t (List.take (P.cellsOf t) xs)=o)(hc:P.cellsOf t=k):
  DataW.trod enc P w 0 (fun _=>true) true n t (List.take k xs)=o:=by rw[<-hc];exact h
theorem l6{t:TypeId}(ht:P.underlying t=some (.int .i64))(h:DataW.trod enc P w 0 (fun _=>true) true fuel t cs=some x):∃n:Int,cs=[J n]/\ -9223372036854775808<=n/\n<=9223372036854775807:=by
 obtain⟨n,h1,_,h3⟩:=DataW.trod_int ht h;exact⟨n,h1,wf_i64 h3⟩
theorem M4{t:TypeId}(ht:P.underlying t=some (.int .u64))(h:DataW.trod enc P w 0 (fun _=>true) true fuel t cs=some x):∃n:Int,cs=[V n]/\0<=n/\n<18446744073709551616:=by
 obtain⟨n,h1,_,h3⟩:=DataW.trod_int ht h;exact⟨n,h1,wf_u64 h3⟩
theorem aaT{t:TypeId}(ht:P.underlying t=some (.int .u8))(h:DataW.trod enc P w 0 (fun _=>true) true fuel t cs=some x):∃n:UInt8,cs=[U (n.toNat:Int)]:=by
 obtain⟨n,h1,_,h3⟩:=DataW.trod_int ht h;obtain⟨b,rfl⟩:=aan (wf_u8 h3);exact⟨b,h1⟩
theorem eO{A:Addr}{xs:bi}(h:∀i v,xs[i]? =some v->w.cell? (A.add i)=some v):ce w (some A) xs:=fun hx=>by
 refine⟨A,rfl,?_,h⟩
 have h0:=h 0 (xs[0]) (by simp[hx])
 have:=World.block_lt_of_cell? w _ h0
 rwa[Addr.gq] at this
theorem zV{t e:TypeId}(ht:P.underlying t=some (.slice e))(he:P.underlying e=some (.int .i64))(hc:P.cellsOf e=1)(hby:P.bytesOf e=8)(h:DataW.trod enc P w 0 (fun _=>true) true fuel t cs=some x)
  (hw:(x.1.weights P t).all (·<=reachBytes)=true):
  ∃(A:am) (c:Nat) (l:bv),cs=[.slice A l.length c]/\ce w A (ints l)/\l.length*8<=140737488351232/\∀n∈l,-9223372036854775808<=n/\n<=9223372036854775807:=by
 rcases open_ints ht he hc h with⟨rfl,_⟩|⟨a,len,cap,zs,rfl,_,hl,_,hz,hx,hcell,hwf⟩
 ·exact⟨none,0,[],rfl,Rd.nil,by simp,by simp⟩
 subst hx;simp only[if_true] at hz
 have hw1:((zs.take len).length+(zs.drop len).length)*P.bytesOf e<=reachBytes:=by
  grind [DataW.weights,lits]
 rw[hby,cf,bN] at hw1;unfold reachBytes at hw1;refine⟨some a,cap,zs.take len,by grind,eO fun i v hv=>?_,by grind,fun n hn=>wf_i64 (hwf n (List.mem_of_mem_take hn))⟩
 grind [ints]
theorem EF{t e:TypeId}(ht:P.underlying t=some (.slice e))(he:P.underlying e=some (.int .u8))(hc:P.cellsOf e=1)(hby:P.bytesOf e=1)(h:DataW.trod enc P w 0 (fun _=>true) true fuel t cs=some x)
  (hw:(x.1.weights P t).all (·<=reachBytes)=true):
  ∃(A:am) (c:Nat) (l:ap),cs=[.slice A l.length c]/\ce w A (aA l)/\l.length<=140737488351232:=by
 rcases open_ints ht he hc h with⟨rfl,_⟩|⟨a,len,cap,zs,rfl,_,hl,_,hz,hx,hcell,hwf⟩
 ·exact⟨none,0,[],rfl,Rd.nil,by simp⟩
 subst hx;simp only[if_true] at hz
 have hw1:((zs.take len).length+(zs.drop len).length)*P.bytesOf e<=reachBytes:=by
  grind [DataW.weights,lits]
 rw[hby,cf,bN] at hw1;unfold reachBytes at hw1
 have hm:∀n∈zs,((UInt8.ofNat n.toNat).toNat:Int)=n:=fun n hn=>by
  have:=wf_u8 (hwf n hn);rw[UInt8.toNat_ofNat'];omega
 refine⟨some a,cap,(zs.take len).map fun n=>UInt8.ofNat n.toNat,by grind,eO fun i v hv=>?_,by grind⟩
 grind [aA]
section
variable{r:Reach}{b0:Nat}{v:Value}{d:DataW H}{ps:List MemPlace}{t e:TypeId}
theorem Y8(ht:P.underlying t=some (.int .i64))(hval:Value.okWide P w r b0 t v)(h:DataW.Trod enc P w 0 (fun _=>true) true t v d ps)(_hw:(d.weights P t).all (·<=reachBytes)=true):∃n:Int,v=J n/\ -9223372036854775808<=n/\n<=9223372036854775807:=by
 obtain⟨n,h1,_,_,h3⟩:=open_int ht hval h;exact⟨n,h1,wf_i64 h3⟩
theorem W9(ht:P.underlying t=some (.slice e))(he:P.underlying e=some (.int .u8))(hc:P.cellsOf e=1)(hby:P.bytesOf e=1)(hval:Value.okWide P w r b0 t v)(h:DataW.Trod enc P w 0 (fun _=>true) true t v d ps)
  (hw:(d.weights P t).all (·<=reachBytes)=true):∃(A:am) (c:Nat) (l:ap),v=.slice A l.length c/\ce w A (aA l)/\l.length<=140737488351232:=by
 obtain⟨a,len,cap,rfl⟩:=okWide_slice ht hval;obtain⟨fuel,hf⟩:=h;grind [EF,Value.cells]
end
theorem dO{ts:List TypeId}{ds:List (DataW H)}(h:(DataW.weightsEach P ts ds).all (·<=reachBytes)=true){j:Nat}{t:TypeId}{d:DataW H}(ht:ts[j]? =some t)(hd:ds[j]? =some d):
  (d.weights P t).all (·<=reachBytes)=true:=
 aJ.2 fun n hn=>aJ.1 h n (DataW.weights_mem_each ht hd n hn)
end
end E
namespace E
open Go Go.RowKit Go.WideShapes Go.ChangeShapes Go.ChangeAt
section
variable{H:Type}{enc:TypeId×Value->H}{P:Program}{w:World}{fuel:Nat}{cs:bi}{x:DataW H×List MemPlace}
def abd(w:World)(cs:bi):Prop:=∃m:Tm,cs=m.cells/\m.rd w (Old w)/\m.q.fit
theorem lS{P:Program}{e:TypeId}{d:DataW H}{n:Nat}:∀{ds:List (DataW H)},d∈ds->n∈d.weights P e->n∈DataW.weightsAll P e ds:=by
 intro ds;induction ds with
 |nil=>intro h;cases h
 |cons a r ih=>
  grind [DataW.weightsAll]
theorem mA{α:Type}[Inhabited α]{n:Nat}{p:Nat->α->Prop}(h:∀i,i<n->∃a,p i a):∃l:List α,l.length=n/\∀i,i<n->p i (l.getD i default):=by
 induction n with
 |zero=>exact⟨[],rfl,fun i hi=>by omega⟩
 |succ n ih=>
  obtain⟨l,h1,h2⟩:=ih fun i hi=>h i K1;obtain⟨a,ha⟩:=h n K1;refine⟨l++[a],by simp[h1],fun i hi=>?_⟩
  grind
instance:Inhabited Tm:=⟨Tm.z⟩
theorem US{ts:List Tm}{i:Nat}{v:Value}(h:(tms ts)[i]? =some v):i/8<ts.length/\(ts.getD (i/8) Tm.z).cells[i%8]? =some v:=by
 have hlt:i<ts.length*8:=by
  rcases dd i (ts.length*8) with h'|h'
  ·exact h'
  simp_all
 have hk:i/8<ts.length:=K1;refine⟨hk,?_⟩;have hj:i%8<(ts.getD (i/8) Tm.z).cells.length:=by simp[Tm.cells];omega
 have h2:=sX hk (aC hj);grind
theorem VV{t e:TypeId}(ht:P.underlying t=some (.slice e))(hc:P.cellsOf e=8)(hby:P.bytesOf e=112)
  (hE:∀{fuel:Nat} {cs:bi} {x:DataW H×List MemPlace},DataW.trod enc P w 0 (fun _=>true) true fuel e cs=some x->(x.1.weights P e).all (·<=reachBytes)=true->abd w cs)
  (h:DataW.trod enc P w 0 (fun _=>true) true fuel t cs=some x) (hw:(x.1.weights P t).all (·<=reachBytes)=true):
  ∃(A:am) (c:Nat) (ts:List Tm),cs=[.slice A ts.length c]/\ce w A (tms ts)/\(∀m∈ts,m.rd w (Old w))/\(∀m∈ts,m.q.fit)/\ts.length*112<=140737488351232:=by
 rcases Deep.open_slice ht h with⟨rfl,_⟩|⟨a,len,cap,m,n,D,Pl,rfl,_,hl,_,hm,rfl,hx⟩
 ·exact⟨none,0,[],rfl,Rd.nil,(by intro m hm;cases hm),(by intro m hm;cases hm),by simp⟩
 simp only[if_true] at hm;subst hm
 have hlen:(len+(m-len))*112<=reachBytes:=by
  grind [DataW.weights]
 have hel:∀i,i<len->∃q:Tm,(∀j v,q.cells[j]? =some v->w.cell? ((a.add (i*8)).add j)=some v)/\q.rd w (Old w)/\q.q.fit:=by
  intro i hi;obtain⟨cs',h1,h2⟩:=hx i K1;rw[hc] at h1
  have hwt:((D i).weights P e).all (·<=reachBytes)=true:=aJ.2 fun k hk=>by
   refine aJ.1 hw k ?_;simp only[DataW.weights,ht,er,aN];exact .inr (.inl (lS (cm.2 ⟨i,cu.2 hi,rfl⟩) hk))
  obtain⟨q,rfl,h3,h4⟩:=hE h2 hwt;obtain⟨_,hl8,hcell⟩:=World.cells?_some h1;grind
 obtain⟨ts,ht1,ht2⟩:=mA hel;have hd:∀i,ts.getD i default=ts.getD i Tm.z:=fun _=>rfl;refine⟨some a,m,ts,by rw[ht1],eO fun i v hv=>?_,fun q hq=>?_,fun q hq=>?_,by rw[ht1];unfold reachBytes at hlen;omega⟩
 ·obtain⟨g1,g2⟩:=US hv;have:=(ht2 (i/8) K1).1 (i%8) v g2;grind [Deep.add_add]
 ·grind [List.getElem_of_mem]
 grind [List.getElem_of_mem]
end
end E
namespace E
open Go Go.RowKit Go.WideShapes Go.ChangeShapes Go.ChangeAt
theorem Fx.inv{α:Type}{f:α->bi}{sz:Nat}(h:Fx f sz)(hs:0<sz)(z:α){l:List α}{i:Nat}{v:Value}(hv:(fl f l)[i]? =some v):i/sz<l.length/\(f (l.getD (i/sz) z))[i%sz]? =some v:=by
 have hlt:i<l.length*sz:=by
  grind [ct]
 have hk:i/sz<l.length:=tE (by grind)
 refine⟨hk,?_⟩;have hj:i%sz<(f (l.getD (i/sz) z)).length:=by rw[h.len];exact gk _ hs
 have h2:=h.get (z:=z) hk (aC hj);grind [Nat.div_add_mod]
section
variable{H:Type}{enc:TypeId×Value->H}{P:Program}{w:World}{fuel:Nat}{cs:bi}{x:DataW H×List MemPlace}
theorem YG{t e:TypeId}(ht:P.underlying t=some (.slice e))(he:P.underlying e=some (.int .u8))(hc:P.cellsOf e=1)(_:P.bytesOf e=1)(h:DataW.trod enc P w 0 (fun _=>true) true fuel t cs=some x)
  (_:(x.1.weights P t).all (·<=reachBytes)=true):
  ∃(A:am) (c:Nat) (l:ap),cs=[.slice A l.length c]/\ce w A (aA l)/\l.length<=c:=by
 rcases open_ints ht he hc h with⟨rfl,_⟩|⟨a,len,cap,zs,rfl,_,hl,_,hz,hx,hcell,hwf⟩
 ·exact⟨none,0,[],rfl,Rd.nil,bb _⟩
 subst hx;simp only[if_true] at hz
 have hm:∀n∈zs,((UInt8.ofNat n.toNat).toNat:Int)=n:=fun n hn=>by
  have:=wf_u8 (hwf n hn);rw[UInt8.toNat_ofNat'];omega
 refine⟨some a,cap,(zs.take len).map fun n=>UInt8.ofNat n.toNat,by grind,eO fun i v hv=>?_,by grind⟩
 grind [aA]
def Wn(w:World)(cs:bi):Prop:=∃y:Sw,cs=y.cells/\y.fit/\ce w y.A (aA y.x.bs)
instance:Inhabited Sw:=⟨Sw.z⟩
theorem XD{t e:TypeId}(ht:P.underlying t=some (.slice e))(hc:P.cellsOf e=6)
  (hE:∀{fuel:Nat} {cs:bi} {x:DataW H×List MemPlace},DataW.trod enc P w 0 (fun _=>true) true fuel e cs=some x->(x.1.weights P e).all (·<=reachBytes)=true->Wn w cs)
  (h:DataW.trod enc P w 0 (fun _=>true) true fuel t cs=some x) (hw:(x.1.weights P t).all (·<=reachBytes)=true):
  ∃(A:am) (c:Nat) (l:List Sw),cs=[.slice A l.length c]/\ce w A (fl Sw.cells l)/\(∀y∈l,y.fit/\ce w y.A (aA y.x.bs)):=by
 rcases Deep.open_slice ht h with⟨rfl,_⟩|⟨a,len,cap,m,n,D,Pl,rfl,_,hl,_,hm,rfl,hx⟩
 ·exact⟨none,0,[],rfl,Rd.nil,(by intro m hm;cases hm)⟩
 simp only[if_true] at hm;subst hm
 have hel:∀i,i<len->∃q:Sw,(∀j v,q.cells[j]? =some v->w.cell? ((a.add (i*6)).add j)=some v)/\q.fit/\ce w q.A (aA q.x.bs):=by
  intro i hi;obtain⟨cs',h1,h2⟩:=hx i K1;rw[hc] at h1
  have hwt:((D i).weights P e).all (·<=reachBytes)=true:=aJ.2 fun k hk=>by
   refine aJ.1 hw k ?_;simp only[DataW.weights,ht,er,aN];exact .inr (.inl (lS (cm.2 ⟨i,cu.2 hi,rfl⟩) hk))
  obtain⟨q,rfl,h3,h4⟩:=hE h2 hwt;obtain⟨_,hl8,hcell⟩:=World.cells?_some h1;grind
 obtain⟨ts,ht1,ht2⟩:=mA hel;refine⟨some a,m,ts,by rw[ht1],eO fun i v hv=>?_,fun q hq=>?_⟩
 ·obtain⟨g1,g2⟩:=Sw.fx.inv (by decide) Sw.z hv
  have:=(ht2 (i/6) K1).1 (i%6) v g2;grind [Deep.add_add]
 grind [List.getElem_of_mem]
theorem Yf{r:Reach}{b0:Nat}{v:Value}{d:DataW H}{ps:List MemPlace}{t e:TypeId}(ht:P.underlying t=some (.slice e))(hc:P.cellsOf e=6)
  (hE:∀{fuel:Nat} {cs:bi} {x:DataW H×List MemPlace},DataW.trod enc P w 0 (fun _=>true) true fuel e cs=some x->(x.1.weights P e).all (·<=reachBytes)=true->Wn w cs)
  (hval:Value.okWide P w r b0 t v) (h:DataW.Trod enc P w 0 (fun _=>true) true t v d ps) (hw:(d.weights P t).all (·<=reachBytes)=true):
  ∃(A:am) (c:Nat) (l:List Sw),v=.slice A l.length c/\ce w A (fl Sw.cells l)/\(∀y∈l,y.fit/\ce w y.A (aA y.x.bs)):=by
 obtain⟨a,len,cap,rfl⟩:=okWide_slice ht hval;obtain⟨fuel,hf⟩:=h;grind [XD,Value.cells]
end
end E
instance(a b:Int):CB 160 #[(0,J a),(1,J b)] ((.agg #[J a,J b])):=⟨fun _=>K0⟩
instance F4{a:Int}{b:Int}{c:am}{d e:Nat}:CB 162 #[(0,.agg #[J a,J b]),(1,.slice c d e)] ((.agg #[J a,J b,.slice c d e])):=⟨fun _=>K0⟩
instance(a b:Int):CB 169 #[(0,J a),(1,J b)] ((.agg #[J a,J b])):=⟨fun _=>K0⟩
instance(a b:Int):CB 24 #[(0,J a),(1,J b)] ((.agg #[J a,J b,.slice none 0 0])):=⟨fun _=>K0⟩
instance:CB 28 #[] ((.agg #[J 0,J 0,.slice none 0 0,.slice none 0 0,.slice none 0 0,V 0])):=⟨fun _=>K0⟩
instance Kj{a:Int}{b:Int}{c:am}{d e:Nat}{f:am}{g h:Nat}:CB 28 #[(0,.agg #[J a,J b,.slice c d e]),(1,.slice f g h)] ((.agg #[J a,J b,.slice c d e,.slice f g h,.slice none 0 0,V 0])):=⟨fun _=>K0⟩
instance sq{a:Int}{b:Int}{c:am}{d e:Nat}{f:am}{g h:Nat}{i:Int}:CB 28 #[(0,.agg #[J a,J b,.slice c d e]),(2,.slice f g h),(3,V i)] ((.agg #[J a,J b,.slice c d e,.slice none 0 0,.slice f g h,V i])):=⟨fun _=>K0⟩
instance:CB 65 #[] ((.agg #[.slice none 0 0,.slice none 0 0,.slice none 0 0,J 0,J 0,J 0,J 0,J 0])):=⟨fun _=>K0⟩
instance(a:am)(b c:Nat)(d:am)(e f:Nat)(g:am)(h i:Nat)(j k l m n:Int):CB 65 #[(0,.slice a b c),(1,.slice d e f),(2,.slice g h i),(3,J j),(4,J k),(5,J l),(6,J m),(7,J n)] ((.agg #[.slice a b c,.slice d e f,.slice g h i,J j,J k,J l,J m,J n])):=⟨fun _=>K0⟩
def tU{a:am}{b c:Nat}{d:am}{e f:Nat}{g:am}{h i:Nat}(w:World):(Instr.buildSlice 118 3 #[(0,.slice a b c),(1,.slice d e f),(2,.slice g h i)]).run prog w=.ok (.slice (some ⟨w.heap.size,0,none⟩) 3 3) (w.alloc (.cells #[.slice a b c,.slice d e f,.slice g h i] 63)):=K0
def j1{a:Int}{b:Int}{c:Int}{d:Int}{e:Int}{f:Int}{g:Int}{h:Int}{i:Int}{j:Int}{k:Int}{l:Int}{m:Int}{n:Int}{o:Int}{p:Int}(w:World):(Instr.buildSlice 223 8 #[(0,.agg #[J a,J b]),(1,.agg #[J c,J d]),(2,.agg #[J e,J f]),(3,.agg #[J g,J h]),(4,.agg #[J i,J j]),(5,.agg #[J k,J l]),(6,.agg #[J m,J n]),(7,.agg #[J o,J p])]).run prog w=.ok (.slice (some ⟨w.heap.size,0,none⟩) 8 8) (w.alloc (.cells #[J a,J b,J c,J d,J e,J f,J g,J h,J i,J j,J k,J l,J m,J n,J o,J p] 169)):=K0
def Oe(w:World):(Instr.buildSlice 22 0 #[]).run prog w=.ok (.slice (some ⟨w.heap.size,0,none⟩) 0 0) (w.alloc (.cells #[] 5)):=K0
def pU{a:Int}{b:Int}{c:Int}{d:Int}{e:Int}(w:World):(Instr.buildSlice 22 5 #[(0,U a),(1,U b),(2,U c),(3,U d),(4,U e)]).run prog w=.ok (.slice (some ⟨w.heap.size,0,none⟩) 5 5) (w.alloc (.cells #[U a,U b,U c,U d,U e] 5)):=K0
def nS{a:Int}{b:Int}{c:Int}{d:Int}{e:Int}{f:Int}(w:World):(Instr.buildSlice 22 6 #[(0,U a),(1,U b),(2,U c),(3,U d),(4,U e),(5,U f)]).run prog w=.ok (.slice (some ⟨w.heap.size,0,none⟩) 6 6) (w.alloc (.cells #[U a,U b,U c,U d,U e,U f] 5)):=K0
def wU{a:am}{b c:Nat}{d:am}{e f:Nat}{g:am}{h i:Nat}{j:Int}{k:Int}{l:Int}{m:Int}{n:Int}(w:World):(Instr.buildSlice 25 1 #[(0,.agg #[.slice a b c,.slice d e f,.slice g h i,J j,J k,J l,J m,J n])]).run prog w=.ok (.slice (some ⟨w.heap.size,0,none⟩) 1 1) (w.alloc (.cells #[.slice a b c,.slice d e f,.slice g h i,J j,J k,J l,J m,J n] 65)):=K0
def Og(w:World):(Instr.buildSlice 63 0 #[]).run prog w=.ok (.slice (some ⟨w.heap.size,0,none⟩) 0 0) (w.alloc (.cells #[] 3)):=K0
def df(a:Int)(w:World):(Instr.buildSlice 63 1 #[(0,J a)]).run prog w=.ok (.slice (some ⟨w.heap.size,0,none⟩) 1 1) (w.alloc (.cells #[J a] 3)):=K0
def mixed:Tryz.prog.follows .mixedOrders=true:=K0
def yx(A:am)(c:Nat)(l:bv)(A2:am)(c2:Nat)(l2:bv)(w0:World)(hl:l.length<=140737488355328)(hX:ce w0 A (ints l))(hY:ce w0 A2 (ints l2)):
  CV 106 #[.slice A l.length c,.slice A2 l2.length c2] w0 (.bool (decide (l=l2))):=by
 refine Zq ?_;refine Zc ?_ ?_
 ·refine Zk ?_;intros;exact⟨by rw[xI K1],rfl⟩
 refine Z4t ?_;intro hc;refine CW.av [0,1,12] 0 rfl rfl (fun mm mods Hm=>∃k:Nat,mm=l.length-k/\mods=[(13,J k)]/\Hm=[]/\(k<=l.length/\∀j,j<k->l.getD j 0=l2.getD j 0)) (l.length) ?_ ?_
 ·exact⟨[(13,_)],Kc,0,rfl,rfl,rfl,K1,fun j hj=>by omega⟩
 rintro _ _ _ ⟨k,rfl,rfl,rfl,hk,hI⟩;refine Zc ?_ ?_
 ·refine Zx (k:=Z4y ?_);intro hc;refine Z0 (k:=?_);refine Zc ?_ ?_
  ·refine Zk ?_;intros;exact⟨by rw[Gr (k:=k) (d:=0) K2],rfl⟩
  refine Z4t ?_;intros;refine⟨_,[(13,_)],[],_,?_,Kc,rfl,k+1,rfl,rfl,rfl,K1,Cf.upto hI K2⟩;omega
 refine Zk ?_;intros;exact⟨by rw[HR (d:=0) K1 (fun j hj=>hI j K1)],rfl⟩
def CQ(m m2:Tm)(w0:World)(hm:m.rd w0 (Old w0))(hm2:m2.rd w0 (Old w0))(hf:m.q.fit)(hf2:m2.q.fit):
  CV 74 #[m.v,m2.v] w0 (.bool (decide (m.q=m2.q))):=by
 obtain⟨hX,hY,hZ⟩:=hm;obtain⟨hX2,hY2,hZ2⟩:=hm2;have hs1:=hf.h;have hs2:=hf.p;have hs3:=hf.d;refine Zq ?_;refine Zg @yx ?_;refine Zs ?_ ?_;all_goals first|(iterate 4 refine Z4x ?_;intros)|intros
 all_goals first|(refine OW.off rfl rfl rfl ?_)|(refine OW.call Mx rfl rfl rfl rfl rfl rfl _ (fun w hw=>yx _ _ m.q.p _ _ m2.q.p w ?_ ?_ ?_) ?_;(focus (omega));(focus (refine hw.rd ?_;assumption));(focus (refine hw.rd ?_;assumption));rintro _ _ ⟨rfl,rfl⟩)|skip
 all_goals first|(refine Zt ?_ ?_<;>try exact⟨⟩)|((iterate 2 (refine Z4x ?_;intros)))|skip
 all_goals first|(iterate 4 refine Z4x ?_;intros)|intros
 all_goals first|(refine OW.off rfl rfl rfl ?_)|(refine OW.call Mx rfl rfl rfl rfl rfl rfl _ (fun w hw=>yx _ _ m.q.d _ _ m2.q.d w ?_ ?_ ?_) ?_;(focus (omega));(focus (refine hw.rd ?_;assumption));(focus (refine hw.rd ?_;assumption));rintro _ _ ⟨rfl,rfl⟩)|skip
 all_goals first|(refine Zt ?_ ?_<;>try exact⟨⟩)|((iterate 2 (refine Z4x ?_;intros)))|skip
 all_goals first|(refine Zt ?_ ?_<;>try exact⟨⟩)|((iterate 7 (refine Z4x ?_;intros)))|skip
 all_goals first|(refine Zt ?_ ?_<;>try exact⟨⟩)|((iterate 7 (refine Z4x ?_;intros)))|skip
 all_goals first|(refine Zt ?_ ?_<;>try exact⟨⟩)|((iterate 7 (refine Z4x ?_;intros)))|skip
 all_goals first|(refine Zt ?_ ?_<;>try exact⟨⟩)|((iterate 7 (refine Z4x ?_;intros)))|skip
 all_goals
  refine Zk ?_;intros;exact⟨by simp[Cf.T.ext', *],rfl⟩
def Ce(n m:Int)(w0:World):
  CV 101 #[J n,J m] w0 (.bool (qZ n m)):=by
 refine Zq ?_;refine Zs ?_ ?_
 all_goals
  refine Zk ?_;intros;exact⟨by simp[qZ, *]<;>omega,rfl⟩
def Dh(a b:Int)(w0:World):
  CV 99 #[.agg #[J a,J b]] w0 (.bool (Fl.valid a b)):=by
 refine Zq ?_;refine Zs ?_ ?_;all_goals first|(refine Zt ?_ ?_<;>try exact⟨⟩)|((iterate 5 (refine Z4x ?_;intros)))|skip
 all_goals first|(refine Zt ?_ ?_<;>try exact⟨⟩)|((iterate 5 (refine Z4x ?_;intros)))|skip
 all_goals
  refine Zk ?_;intros;exact⟨by simp[Fl.valid, *]<;>omega,rfl⟩
def G0(a b:Int)(hv:2<=a/\a<=8/\2<=b/\b<=8)(w0:World):
  CV 100 #[.agg #[J a,J b]] w0 (J (a*b)):=by
 refine Zq ?_;refine Z4t ?_;intros;refine OW.pure rfl rfl rfl (PV.H9 rfl rfl rfl (by first|omega|(have:=Yg (a:=a) (b:=b) K1 K1;omega))) ?_
 refine Zk ?_;exact⟨rfl,rfl⟩
def Xo(a b p:Int)(w0:World):
  CV 145 #[.agg #[J a,J b],J p] w0 (.bool (Fl.has a b p)):=by
 refine Zq ?_;refine Zg @Dh ?_;refine Zs ?_ ?_;all_goals first|(iterate 2 refine Z4x ?_;intros)|intros
 all_goals first|(refine OW.off rfl rfl rfl ?_)|(refine OW.call Mx rfl rfl rfl rfl rfl rfl _ (fun w hw=>G0 _ _ (Fl.dv.1 K2) w) ?_;rintro _ _ ⟨rfl,rfl⟩)|skip
 all_goals first|(refine OW.off rfl rfl rfl ?_)|(refine OW.call Mx rfl rfl rfl rfl rfl rfl _ (fun w hw=>Ce _ _ w) ?_;rintro _ _ ⟨rfl,rfl⟩)|skip
 all_goals
  refine Zk ?_;intros;exact⟨by simp[Fl.has, *],rfl⟩
def abw(a b x y:Int)(w0:World):
  CV 193 #[.agg #[J a,J b],J x,J y] w0 (.tuple #[J (Fl.at_ a b x y).1,.bool (Fl.at_ a b x y).2]):=by
 refine Zq ?_;refine Zg @Dh ?_;refine Zs ?_ ?_;all_goals first|(iterate 3 refine Z4x ?_;intros)|intros
 all_goals first|(refine OW.off rfl rfl rfl ?_)|(refine OW.call Mx rfl rfl rfl rfl rfl rfl _ (fun w hw=>Ce _ _ w) ?_;rintro _ _ ⟨rfl,rfl⟩)|skip
 all_goals first|(refine Zt ?_ ?_<;>try exact⟨⟩)|((iterate 3 (refine Z4x ?_;intros)))|skip
 all_goals first|(iterate 3 refine Z4x ?_;intros)|intros
 all_goals first|(refine OW.off rfl rfl rfl ?_)|(refine OW.call Mx rfl rfl rfl rfl rfl rfl _ (fun w hw=>Ce _ _ w) ?_;rintro _ _ ⟨rfl,rfl⟩)|skip
 all_goals
  refine Zd ?_ ?_
  ·try exact⟨⟩
   all_goals
    refine Zk ?_;intros;exact⟨by simp[Fl.at_, *],rfl⟩
  try exact⟨⟩
  all_goals
   refine Z4u ?_;intros;have hv:=Fl.dv.1 (show Fl.valid a b=true by assumption)
   have hx:=iA.1 (show qZ x a=true by assumption)
   have hy:=iA.1 (show qZ y b=true by assumption)
   have hm:=Yg (a:=y) (b:=a) K1 K1;refine Zk ?_;exact⟨by simp[Fl.at_, *],rfl⟩
def MT(a b p d:Int)(hv:2<=a/\a<=8/\2<=b/\b<=8)(hp:0<=p/\p<a*b)(hd:0<=d/\d<4)(w0:World):
  CV 146 #[.agg #[J a,J b],J p,J d] w0 (.tuple #[J (Fl.dQ a b p d).1,.bool (Fl.dQ a b p d).2]):=by
 have hb:=Gc hv hp;have hm:=Yg (a:=a) (b:=b) K1 K1;have h4:d=0\/d=1\/d=2\/d=3:=K1;rcases h4 with h4|h4|h4|h4
 all_goals
  refine Zq ?_;refine Zx (k:=Z4y ?_);intros;refine Z0 (k:=?_);refine Zd ?_ ?_
  ·try exact⟨⟩
   all_goals
    refine Zg @abw ?_;refine Zk ?_;intros;exact⟨by simp[Fl.dQ,dx,dy,kU,h4],rfl⟩
  try exact⟨⟩
  all_goals
   refine Zd ?_ ?_
   ·try exact⟨⟩
    all_goals
     refine Zg @abw ?_;refine Zk ?_;intros;exact⟨by simp[Fl.dQ,dx,dy,kU,h4],rfl⟩
   try exact⟨⟩
   all_goals
    refine Zd ?_ ?_
    ·try exact⟨⟩
     all_goals
      refine Zg @abw ?_;refine Zk ?_;intros;exact⟨by simp[Fl.dQ,dx,dy,kU,h4],rfl⟩
    try exact⟨⟩
    all_goals
     refine Zg @abw ?_;refine Zk ?_;intros;exact⟨by simp[Fl.dQ,dx,dy,kU,h4],rfl⟩
def Gs(a b p d:Int)(w0:World):
  CV 110 #[J a,J b,J p,J d] w0 (.tuple #[J (Fl.step a b p d).1,J (Fl.step a b p d).2]):=by
 refine Zq ?_;refine Zg @Xo ?_;refine Zs ?_ ?_;all_goals first|(refine Z4x ?_;intros)|intros
 all_goals first|(refine OW.off rfl rfl rfl ?_)|(refine OW.call Mx rfl rfl rfl rfl rfl rfl _ (fun w hw=>Ce _ _ w) ?_;rintro _ _ ⟨rfl,rfl⟩)|skip
 all_goals
  refine Zd ?_ ?_
  ·try exact⟨⟩
   all_goals
    refine Zk ?_;intros;exact⟨by simp[Fl.step, *],rfl⟩
  try exact⟨⟩
  all_goals
   refine Z4t ?_;intros;refine OW.call Mx rfl rfl rfl rfl rfl rfl _ (fun w hw=>MT _ _ _ _ (Fl.fC.1 K2).1 (Fl.fC.1 K2).2 (iA.1 K2) w) ?_;rintro _ _ ⟨rfl,rfl⟩;refine Zc ?_ ?_
   ·refine Zk ?_;intros;exact⟨by simp[Fl.step, *],rfl⟩
   refine Zk ?_;intros;exact⟨by simp[Fl.step, *],rfl⟩
def WN(A:am)(c:Nat)(l:ap)(w0:World)(h1:1<=l.length)(hl:l.length<=140737488355328)(hX:ce w0 A (aA l)):
  CV 64 #[.slice A l.length c] w0 (U (Fl.mx l)):=by
 refine Zq ?_;refine Z4t ?_;intro hc;refine CW.av [0] 0 rfl rfl (fun mm mods Hm=>∃k:Nat,mm=l.length-k/\mods=[(3,U (Fl.mx (l.take k))),(4,J k)]/\Hm=[]/\(1<=k/\k<=l.length)) (l.length-1) ?_ ?_
 ·exact⟨[(3,_),(4,_)],Kc,1,rfl,by rw[XU K1];try rfl,rfl,K1⟩
 rintro _ _ _ ⟨k,rfl,rfl,rfl,hk⟩;refine Zc ?_ ?_
 ·refine Z4t ?_;intros;refine⟨_,[(3,_),(4,_)],[],_,?_,Kc,rfl,k+1,rfl,by rw[Gp K1]<;>rfl,rfl,K1⟩
  omega
 refine Zk ?_;intros;exact⟨by rw[bU K1],rfl⟩
def mP(A:am)(c:Nat)(l:ap)(w0:World)(hl:l.length<=140737488355328)(hX:ce w0 A (aA l)):
  CV 38 #[.slice A l.length c] w0 (J (kb l)):=by
 refine Zq ?_;refine Zs ?_ ?_;all_goals first|(refine Zt ?_ ?_<;>try exact⟨⟩)|((iterate 5 (refine Z4x ?_;intros)))|skip
 all_goals first|(refine Z4x ?_;intros)|intros
 all_goals first|(refine OW.off rfl rfl rfl ?_)|(refine OW.call Mx rfl rfl rfl rfl rfl rfl _ (fun w hw=>WN _ _ _ w ?_ ?_ ?_) ?_;(focus (omega));(focus (assumption));(focus (refine hw.rd ?_;assumption));rintro _ _ ⟨rfl,rfl⟩)|skip
 all_goals
  refine Zd ?_ ?_
  ·try exact⟨⟩
   all_goals
    refine Zk ?_;intros;exact⟨by rw[kb,ae (by intro hh;have:=eX.1 hh;have:= @Nj l;simp_all;omega)],rfl⟩
  try exact⟨⟩
  all_goals
   refine Zk ?_;intros;exact⟨by rw[kb,aa (eX.2 ⟨K1,Nj.1 K2⟩)],rfl⟩
def nX(A:am)(c:Nat)(l:ap)(tick:Int)(ht:0<=tick/\tick<18446744073709551616)(w0:World)(hl:l.length<=140737488355328)(hX:ce w0 A (aA l)):
  CV 79 #[.slice A l.length c,V tick] w0 (.tuple #[J (dB l tick).1,J (dB l tick).2]):=by
 refine Zq ?_;refine Zg @mP ?_;refine Zc ?_ ?_
 ·refine Zk ?_;intros;exact⟨by(cases hq:gp l<;>simp_all [dB,kb]),rfl⟩
 refine Z4u ?_;intros;have hs:gp l=true:=by cases hq:gp l<;>simp_all [kb]
 have hv:=(eX.1 hs).1;have hmb:=VD (l:=l) tick K1;have hmz:=O4 (l:=l) (tick:=tick) K1;have hu:=(l.getD (tick%(l.length:Int)).toNat 0).toNat_lt;refine Zk ?_;exact⟨by rw[hmz];simp[dB,hs,rU],rfl⟩
def VZ(A:am)(c:Nat)(l:ap)(q:UInt8->Bool)(f:Nat)(aE:Array Value)(w0:World)(hn:E.Nm prog f)(hq:∀w,HA w0 (Old w0) [] w->∀x:UInt8,Calls prog f (#[U (x.toNat:Int)]++aE) w (bK w (Old w) fun v Hn=>v=.bool (q x)/\Hn=[]))(hl:l.length<=140737488355328)(hX:ce w0 A (aA l)):
  CV 72 #[.slice A l.length c,.func (.func f) #[] aE] w0 (J (Fl.idx q l)):=by
 refine Zq ?_;refine Z4t ?_;refine CW.av [0,1,7] 0 rfl rfl (fun mm mods Hm=>∃k:Nat,mm=l.length-k/\mods=[(8,J k)]/\Hm=[]/\(k<=l.length/\∀j,j<k->q (l.getD j 0)=false)) (l.length) ?_ ?_
 ·exact⟨[(8,_)],Kc,0,rfl,rfl,rfl,K1,fun j hj=>by omega⟩
 rintro _ _ _ ⟨k,rfl,rfl,rfl,hk,hI⟩;refine Zc ?_ ?_
 ·refine Z4t ?_;intro hc;refine Z2 (k:=?_);refine Zc ?_ ?_
  ·refine Zk ?_;intros;exact⟨by rw[Fl.iJ (k:=k) K1 hI K2],rfl⟩
  refine Z4t ?_;intros
  refine⟨_,[(8,_)],[],_,?_,Kc,rfl,k+1,rfl,rfl,rfl,K1,fun j hj=>by
  rcases eG.1 hj with h|rfl
  ·exact hI j h
  ·assumption⟩
  omega
 refine Zk ?_;intros;exact⟨by rw[Fl.iK (fun j hj=>hI j K1)],rfl⟩
def FL(A:am)(c:Nat)(l:ap)(q:UInt8->Bool)(f:Nat)(aE:Array Value)(w0:World)(hn:E.Nm prog f)(hq:∀w,HA w0 (Old w0) [] w->∀x:UInt8,Calls prog f (#[U (x.toNat:Int)]++aE) w (bK w (Old w) fun v Hn=>v=.bool (q x)/\Hn=[]))(hl:l.length<=140737488355328)(hX:ce w0 A (aA l)):
  CV 41 #[.slice A l.length c,.func (.func f) #[] aE] w0 (.bool (l.any q)):=by
 refine Zq ?_;refine Z4t ?_;refine OW.call Mx rfl rfl rfl rfl rfl rfl _ (fun w hw=>VZ _ _ _ q _ aE w hn (fun w2 hw2=>hq w2 (hw2.pF hw)) K2 K27) ?_;rintro _ _ ⟨rfl,rfl⟩;refine Zk ?_;exact⟨by rw[Fl.tL],rfl⟩
def Ov(A:am)(c:Nat)(l:bv)(q:Int->Bool)(f:Nat)(aE:Array Value)(w0:World)(hn:E.Nm prog f)(hq:∀w,HA w0 (Old w0) [] w->∀x:Int,Calls prog f (#[J x]++aE) w (bK w (Old w) fun v Hn=>v=.bool (q x)/\Hn=[]))(hl:l.length<=140737488355328)(hX:ce w0 A (ints l)):
  CV 105 #[.slice A l.length c,.func (.func f) #[] aE] w0 (J (Cf.idx q l)):=by
 refine Zq ?_;refine Z4t ?_;refine CW.av [0,1,7] 0 rfl rfl (fun mm mods Hm=>∃k:Nat,mm=l.length-k/\mods=[(8,J k)]/\Hm=[]/\(k<=l.length/\∀j,j<k->q (l.getD j 0)=false)) (l.length) ?_ ?_
 ·exact⟨[(8,_)],Kc,0,rfl,rfl,rfl,K1,fun j hj=>by omega⟩
 rintro _ _ _ ⟨k,rfl,rfl,rfl,hk,hI⟩;refine Zc ?_ ?_
 ·refine Z4t ?_;intro hc;refine Z2 (k:=?_);refine Zc ?_ ?_
  ·refine Zk ?_;intros;exact⟨by rw[Cf.iJ (k:=k) K1 hI K2],rfl⟩
  refine Z4t ?_;intros
  refine⟨_,[(8,_)],[],_,?_,Kc,rfl,k+1,rfl,rfl,rfl,K1,fun j hj=>by
  rcases eG.1 hj with h|rfl
  ·exact hI j h
  ·assumption⟩
  omega
 refine Zk ?_;intros;exact⟨by rw[Cf.iK (fun j hj=>hI j K1)],rfl⟩
def V4(A:am)(c:Nat)(l:bv)(q:Int->Bool)(f:Nat)(aE:Array Value)(w0:World)(hn:E.Nm prog f)(hq:∀w,HA w0 (Old w0) [] w->∀x:Int,Calls prog f (#[J x]++aE) w (bK w (Old w) fun v Hn=>v=.bool (q x)/\Hn=[]))(hl:l.length<=140737488355328)(hX:ce w0 A (ints l)):
  CV 70 #[.slice A l.length c,.func (.func f) #[] aE] w0 (.bool (l.any q)):=by
 refine Zq ?_;refine Z4t ?_;refine OW.call Mx rfl rfl rfl rfl rfl rfl _ (fun w hw=>Ov _ _ _ q _ aE w hn (fun w2 hw2=>hq w2 (hw2.pF hw)) K2 K27) ?_;rintro _ _ ⟨rfl,rfl⟩;refine Zk ?_;exact⟨by rw[Cf.tL],rfl⟩
def XL(x:UInt8)(w0:World):
  CV 98 #[U (x.toNat:Int)] w0 (.bool (!DQ x)):=by
 have hu:=x.toNat_lt;refine Zq ?_;refine Zs ?_ ?_
 all_goals
  refine Zk ?_;intros;exact⟨by rw[aa1];simp[*]<;>omega,rfl⟩
def E1(a b:Int)(A:am)(c:Nat)(l:ap)(w0:World):
  CV 62 #[.agg #[J a,J b,.slice A l.length c]] w0 (.agg #[J a,J b,.slice A l.length c]):=by
 refine Zq ?_;refine Zx (k:=Z4y ?_);intros;refine Z4z ?_;iterate 7 refine Z4x ?_
 refine OW.pure rfl rfl rfl (PV.build (ps:=[(0,.tmp 7),(1,.tmp 9)]) rfl rfl (fun w=>(F4).h w)) ?_;refine Zk ?_;exact⟨rfl,rfl⟩
def Jz(a b:Int)(A:am)(c:Nat)(l:ap)(w0:World)(hl:l.length<=140737488355328)(hX:ce w0 A (aA l)):
  CV 63 #[.agg #[J a,J b,.slice A l.length c]] w0 (J (gF a b l)):=by
 refine Zq ?_;refine Zx (k:=Zy (k:=Z4y ?_));intros;refine Z0 (k:=Z4t ?_);refine QW.call Mx rfl rfl rfl rfl rfl rfl _ (fun w hw=>bK.val (Dh _ _ w)) ?_;refine QW.pure rfl rfl rfl (PV.not rfl rfl) ?_;refine Z4S ?_;refine QW.split 8 rfl (fun hc=>?_) (fun hc=>?_)<;>(try simp only[bz,reduceCtorEq] at hc)<;>try exact Kf
 all_goals
  refine Z5 (k:=?_)
 all_goals
  refine Z6 (k:=?_)
 all_goals
  first|(refine QW.off rfl rfl rfl ?_)|(refine QW.pure rfl rfl rfl (PV.len Ux rfl rfl) ?_)
 all_goals
  refine Z5 (k:=?_)
 all_goals
  first|(refine QW.off rfl rfl rfl ?_)|(refine QW.pure rfl rfl rfl (PV.jD (i:=0) Ix rfl rfl rfl rfl) ?_)
 all_goals
  first|(refine QW.off rfl rfl rfl ?_)|((refine QW.call Mx rfl rfl rfl rfl rfl rfl _ (fun w hw=>bK.val (G0 _ _ (Fl.dv.1 K2) w)) ?_))
 all_goals
  refine Z7 (k:=?_)
 all_goals
  refine Z8 (k:=?_)
 all_goals
  refine Z4S ?_
 all_goals
  first|(refine QW.put 17 (.bool true) (v:=.bool true) rfl rfl ?_)|(refine QW.split 17 rfl (fun hc=>?_) (fun hc=>?_)<;>(try simp only[bz,reduceCtorEq] at hc)<;>try exact Kf)
 all_goals
  refine Z5 (k:=?_)
 all_goals
  refine Z6 (k:=?_)
 all_goals
  refine Z9 (k:=?_)
 all_goals
  first|(refine QW.off rfl rfl rfl ?_)|((refine QW.call Mx rfl rfl rfl rfl rfl rfl _ (fun w hw=>bK.val (FL _ _ _ (fun x=> !DQ x) 98 #[] w Mx (fun w2 _ x=>by simpa using XL x w2) ?_ ?_)) ?_;(focus (assumption));(focus (refine hw.rd ?_;assumption))))
 all_goals
  refine Z8 (k:=?_)
 all_goals
  refine QW.nil ?_;refine Z4B ?_;refine CW.cond rfl (fun hc=>?_) (fun hc=>?_)
  ·first|(simp only[bz,reduceCtorEq] at hc)|(skip)
   all_goals
    refine Ze (k:=Z3 (k:=Zf (k:=Zi (k:=Zb (k:=Zm (k:=Zv (k:=Z4P ?_)))))));exact⟨by simp_all [gF,cG,HM],rfl⟩
  first|((cases hc;done))|(skip)
  all_goals
   refine ZB (k:=Zb (k:=Ze (k:=Z3 (k:=Zf (k:=Zi (k:=Zb (k:=Zm (k:=Z4P ?_))))))));exact⟨by simp_all [gF,cG,HM],rfl⟩
def N4(a b:Int)(A:am)(c:Nat)(l:ap)(w0:World)(hl:l.length<=140737488355328)(hX:ce w0 A (aA l)):
  CV 37 #[.agg #[J a,J b,.slice A l.length c]] w0 (J (gF a b l)):=by
 refine Zq ?_;refine Zg @E1 ?_;refine Zg @Jz ?_;refine Zk ?_;intros;exact⟨rfl,rfl⟩
def Ld(a b:Int)(A:am)(c:Nat)(l:ap)(p:Int)(w0:World)(hp:0<=p/\p<l.length)(hX:ce w0 A (aA l)):
  CV 143 #[.agg #[J a,J b,.slice A l.length c],J p] w0 (J (dE (l.getD p.toNat 0))):=by
 have hu:=(l.getD p.toNat 0).toNat_lt;refine Zq ?_;refine Zc ?_ ?_
 ·refine Zk ?_;intros;exact⟨by(unfold dE;first|(rw[aa K1];done)|(rw[ae K1,aa K1];done)|(rw[ae K1,ae K1];done)),rfl⟩
 refine Zc ?_ ?_
 ·refine Zk ?_;intros;exact⟨by(unfold dE;first|(rw[aa K1];done)|(rw[ae K1,aa K1];done)|(rw[ae K1,ae K1];done)),rfl⟩
 refine Zk ?_;intros;exact⟨by(unfold dE;first|(rw[aa K1];done)|(rw[ae K1,aa K1];done)|(rw[ae K1,ae K1];done)),rfl⟩
def XQ(a b:Int)(A:am)(c:Nat)(l:ap)(t:Int)(w0:World)(h64:l.length<=64)(hX:ce w0 A (aA l)):
  CO 102 #[.agg #[J a,J b,.slice A l.length c],J t] w0 fun v Hn=>∃A2 c2,v=.slice A2 (places (fun x=>decide (dE x=t)) l l.length).length c2/\Hn=[HP.row 3 1 A2 (places (fun x=>decide (dE x=t)) l l.length).length c2 (ints (places (fun x=>decide (dE x=t)) l l.length))]:=by
 refine Zq ?_;refine Zx (k:=Z4y ?_);intros;refine ZC (k:=Z4t ?_);refine CW.av [1,2,9] 1 rfl rfl (fun mm mods Hm=>∃k:Nat,∃D:am,∃e:Nat,mm=l.length-k/\mods=[(10,J k),(5,.slice D (places (fun x=>decide (dE x=t)) l k).length e)]/\Hm=[HP.row 3 1 D (places (fun x=>decide (dE x=t)) l k).length e (ints (places (fun x=>decide (dE x=t)) l k))]/\k<=l.length) (l.length) ?_ ?_
 ·exact⟨[(10,_),(5,_)],Kc,0,none,0,rfl,rfl,rfl,K1⟩
 rintro _ _ _ ⟨k,D,e,rfl,rfl,rfl,hk⟩;have hpl:=vI (fun x=>decide (dE x=t)) l k;refine Zc ?_ ?_
 ·refine Zg @Ld ?_;refine Zc ?_ ?_
  ·refine Z4t ?_;intro hc hc;refine ZD df (k:=fun A2=>ZE (k:=fun A3 c3=>Z4t ?_));refine⟨_,[(10,_),(5,_)],[0,0],_,?_,Kc,rfl,k+1,A3,c3,rfl,by rw[uG K24]<;>rfl,by rw[uG K24],K1⟩
   omega
  refine Z4t ?_;intro hc hc;refine⟨_,[(10,_),(5,_)],[0,0],_,?_,Kc,rfl,k+1,D,e,rfl,by rw[w8 K24]<;>rfl,by rw[w8 K24],K1⟩
  omega
 refine Zl ?_;intros;obtain rfl:k=l.length:=K1;exact⟨_,_,rfl,rfl⟩
def OL(a b:Int)(A:am)(c:Nat)(l:ap)(p:Int)(w0:World)(hl:l.length<=140737488355328)(hX:ce w0 A (aA l)):
  CV 108 #[.agg #[J a,J b,.slice A l.length c],J p] w0 (.tuple #[J (Fl.owner a b l p).1,J (Fl.owner a b l p).2]):=by
 refine Zq ?_;refine Zg @E1 ?_;refine Zg @Jz ?_;refine Zc ?_ ?_
 ·refine Zk ?_;intros;exact⟨by(cases hq:cG a b l<;>simp_all [Fl.owner,gF]),rfl⟩
 refine Zg @Xo ?_;refine Zc ?_ ?_
 ·refine Zk ?_;intros;exact⟨by(cases hq:cG a b l<;>simp_all [Fl.owner,gF]),rfl⟩
 refine Z4u ?_;intros;have hv:cG a b l=true:=iM.1 K2;have hh:=WA hv K2;refine Zg @Ld ?_;refine Zk ?_;exact⟨by(cases hq:cG a b l<;>simp_all [Fl.owner,gF]),rfl⟩
def Em(a b:Int)(A:am)(c:Nat)(l:ap)(t:Int)(w0:World)(hl:l.length<=140737488355328)(hX:ce w0 A (aA l)):
  CO 65 #[.agg #[J a,J b,.slice A l.length c],J t] w0 fun v Hn=>∃A2 c2,v=.tuple #[.slice A2 ((js a b l t).1).length c2,J (js a b l t).2]/\Hn=[HP.row 3 1 A2 ((js a b l t).1).length c2 (ints ((js a b l t).1))]:=by
 refine Zq ?_;refine Zg @E1 ?_;refine Zg @Jz ?_;refine Zc ?_ ?_
 ·refine Z4u ?_;intros;refine ZC (k:=?_);refine Zl ?_;have e:gF a b l=50/\js a b l t=([],50):=by(cases hq:cG a b l<;>simp_all [js,gF])
  rw[e.1,e.2];exact⟨none,0,rfl,rfl⟩
 refine Zg @Ce ?_;refine Zc ?_ ?_
 ·refine Z4u ?_;intros;refine ZC (k:=?_);refine Zl ?_;have hv:cG a b l=true:=iM.1 K2;rw[show js a b l t=([],2) by simp[js, *]]
  exact⟨none,0,rfl,rfl⟩
 refine Z4u ?_;intros;have hv:cG a b l=true:=iM.1 K2;have h64:=jo hv;refine Zg @XQ ?_;refine Zl ?_;intros;have hv:cG a b l=true:=iM.1 K2;rw[show js a b l t=(_,0) by simp only[js, *,if_true];rfl]
 exact⟨_,_,rfl,rfl⟩
def aaL(A:am)(c:Nat)(l:bv)(x:Int)(w0:World)(hl:l.length<=140737488355328)(hX:ce w0 A (ints l)):
  CV 103 #[.slice A l.length c,J x] w0 (J (Cf.idx (fun y=>decide (x=y)) l)):=by
 refine Zq ?_;refine Z4t ?_;refine CW.av [0,1,7] 0 rfl rfl (fun mm mods Hm=>∃k:Nat,mm=l.length-k/\mods=[(8,J k)]/\Hm=[]/\(k<=l.length/\∀j,j<k->decide (x=l.getD j 0)=false)) (l.length) ?_ ?_
 ·exact⟨[(8,_)],Kc,0,rfl,rfl,rfl,K1,fun j hj=>by omega⟩
 rintro _ _ _ ⟨k,rfl,rfl,rfl,hk,hI⟩;refine Zc ?_ ?_
 ·refine Zc ?_ ?_
  ·refine Zk ?_;intros;exact⟨by rw[Cf.iJ (k:=k) K1 hI (bu K2)],rfl⟩
  refine Z4t ?_;intros;refine⟨_,[(8,_)],[],_,?_,Kc,rfl,k+1,rfl,rfl,rfl,K1,qc hI (aV K2)⟩;omega
 refine Zk ?_;intros;exact⟨by rw[Cf.iK (fun j hj=>hI j K1)],rfl⟩
def VJ(A:am)(c:Nat)(l:bv)(x:Int)(w0:World)(hl:l.length<=140737488355328)(hX:ce w0 A (ints l)):
  CV 68 #[.slice A l.length c,J x] w0 (.bool (decide (x∈l))):=by
 refine Zq ?_;refine Zg @aaL ?_;refine Zk ?_;exact⟨by rw[UI],rfl⟩
def aay(A:am)(c:Nat)(l:bv)(w0:World)(hi64:Cv l)(hl:l.length<=140737488355328)(hX:ce w0 A (ints l)):
  CV 71 #[.slice A l.length c] w0 (.bool (decide l.Nodup)):=by
 refine Zq ?_;refine Z4t ?_;refine OW.makeMap (kt:=3) (e:=3) rfl rfl rfl rfl (fun B1=>?_);refine Z4t ?_;refine CW.av [0,3,7,8] 1 rfl rfl (fun mm mods Hm=>∃k:Nat,∃D:List (Lit×DataW Unit),mm=l.length-k/\mods=[(9,J k)]/\Hm=[HP.map prog 3 3 B1 k D]/\(k<=l.length/\Dk l k D)) (l.length) ?_ ?_
 ·exact⟨[(9,_)],Kc,0,_,rfl,rfl,rfl,K1,LR l⟩
 rintro _ _ _ ⟨k,D,rfl,rfl,rfl,hk,hD⟩;refine Zc ?_ ?_
 ·refine Zx (k:=Z4y ?_);intros;have hpb:=hi64 _ (xj (show k<l.length by omega))
  refine Z4t ?_;refine OW.lookup (i:=0) Ux Ux Ux Jx rfl rfl rfl rfl rfl rfl K54 rfl (fun cM=>?_);refine ZG (k:=?_);refine OW.mapUpdate (i:=0) Ux Ux Ux rfl rfl rfl rfl rfl rfl K54 K54 K4 rfl ?_;refine Z4t ?_;refine⟨_,[(9,_)],[0],_,?_,Kc,rfl,k+1,_,rfl,rfl,rfl,K1,SM hD K1⟩;omega
 refine Z4t ?_;intros;refine OW.pure rfl rfl rfl (PV.aak (i:=0) Ux rfl rfl rfl) ?_;refine Zk ?_;exact⟨by rw[Yo hD K1],rfl⟩
def acN(m:Nat)(w0:World)(hm:m*8<=140737488355328):
  CO 144 #[.slice none 0 0,J (m:Int)] w0 fun v Hn=>∃A2 c2,v=.slice A2 0 c2/\Hn=[HP.row 3 1 A2 0 c2 []]:=by
 refine Zq ?_;refine Zx (k:=Zy (k:=Zy (k:=Z4y ?_)));refine CW.put 1 (J (m:Int)) rfl K7 ?_;refine ZC (k:=?_);refine Zc ?_ ?_
 ·refine Z4t ?_;intros;refine ZH (k:=Zr (k:=ZI (k:=fun A2 c2 zs2=>Zr (k:=ZH (k:=?_)))));refine Zl ?_;exact⟨_,_,rfl,rfl⟩
 refine Zl ?_;intros;exact⟨_,_,rfl,rfl⟩
def acw(A:am)(c:Nat)(ss:List Sl)(w0:World)(hl:ss.length<=100)(hX:ce w0 A (yc ss))(hs:∀s∈ss,ce w0 s.A (ints s.l))(hf:(flat ss ss.length).length*8<=140737488355328):
  CO 104 #[.slice A ss.length c] w0 fun v Hn=>∃A2 c2,v=.slice A2 (flat ss ss.length).length c2/\Hn=[HP.row 3 1 A2 (flat ss ss.length).length c2 (ints (flat ss ss.length))]:=by
 refine Zq ?_;refine Z4t ?_;refine CW.av [0,9,10] 0 rfl rfl (fun mm mods Hm=>∃k:Nat,mm=ss.length-k/\mods=[(3,J ((flat ss k).length:Int)),(11,J k)]/\Hm=[]/\k<=ss.length) (ss.length) ?_ ?_
 ·exact⟨[(3,_),(11,_)],Kc,0,rfl,by rw[qK]<;>rfl,rfl,K1⟩
 rintro _ _ _ ⟨k,rfl,rfl,rfl,hk⟩;refine Zc ?_ ?_
 ·refine Z4u ?_;intro hc;have hsk:=hs _ (Sl.mem (show k<ss.length by omega))
  have hfl:=Hw ss (k+1);have hfs:=wJ (show k<ss.length by omega)
  have hfn:(flat ss (k+1)).length=(flat ss k).length+(ss.getD k Sl.z).l.length:=by rw[hfs,aF]
  refine Z4t ?_;refine OW.pure rfl rfl rfl (PV.Ha (oh hX) Nx rfl rfl K1) ?_;refine Z4t ?_;refine⟨_,[(3,_),(11,_)],[],_,?_,Kc,rfl,k+1,rfl,by rw[hfn]<;>rfl,rfl,K1⟩
  omega
 refine Z4u ?_;intro hc;obtain rfl:k=ss.length:=K1;refine Zg @acN ?_;refine Z4t ?_;intros;refine CW.av [25,26] 1 rfl rfl (fun mm mods Hm=>∃k:Nat,∃D:am,∃e:Nat,mm=ss.length-k/\mods=[(27,J k),(6,.slice D (flat ss k).length e)]/\Hm=[HP.row 3 1 D (flat ss k).length e (ints (flat ss k))]/\k<=ss.length) (ss.length) ?_ ?_
 ·exact⟨[(27,_),(6,_)],Kc,0,_,_,rfl,by rw[qK]<;>rfl,by rw[qK]<;>rfl,K1⟩
 rintro _ _ _ ⟨k,D,e,rfl,rfl,rfl,hk⟩;refine Zc ?_ ?_
 ·refine Z4u ?_;intros;have hsk:=hs _ (Sl.mem (show k<ss.length by omega))
  have hfl:=Hw ss (k+1);have hfs:=wJ (show k<ss.length by omega)
  have hfn:(flat ss (k+1)).length=(flat ss k).length+(ss.getD k Sl.z).l.length:=by rw[hfs,aF]
  refine Z4t ?_;refine OW.pure rfl rfl rfl (PV.Ha (oh hX) Nx rfl rfl K1) ?_;refine Z4t ?_;refine OW.Py (i:=0) Ux Jx rfl rfl rfl rfl rfl rfl rfl rfl rfl (oh hsk) K3 (fun A1 c1=>?_);refine Z4t ?_;refine⟨_,[(27,_),(6,_)],[0],_,?_,Kc,rfl,k+1,_,_,rfl,by rw[hfs]<;>rfl,by rw[hfs],K1⟩
  omega
 refine Zl ?_;intros;obtain rfl:k=ss.length:=K1;exact⟨_,_,rfl,rfl⟩
def Vv(m:Tm)(w0:World)(hm:m.rd w0 (Old w0))(hf:m.q.fit)(h8:(bC m.q).length*8<=140737488355328):
  CO 69 #[m.v] w0 fun v Hn=>∃A2 c2,v=.slice A2 (bC m.q).length c2/\Hn=[HP.row 3 1 A2 (bC m.q).length c2 (ints (bC m.q))]:=by
 obtain⟨hX,hY,hZ⟩:=id hm;have hs1:=hf.h;have hs2:=hf.p;have hs3:=hf.d;have hsl:=jf m.q;have hfl:flat [⟨m.A1,m.c1,m.q.h⟩,⟨m.A2,m.c2,m.q.p⟩,⟨m.A3,m.c3,m.q.d⟩] 3=bC m.q:=by simp[flat,bC]
 refine Zq ?_;refine Z4t ?_;intros;refine OW.bsl 1 (yc [⟨m.A1,m.c1,m.q.h⟩,⟨m.A2,m.c2,m.q.p⟩,⟨m.A3,m.c3,m.q.d⟩]) rfl rfl (fun w=>tU w) (fun AL=>?_);refine OW.call Mx rfl rfl rfl rfl rfl rfl _ (fun w hw=>acw _ _ [⟨m.A1,m.c1,m.q.h⟩,⟨m.A2,m.c2,m.q.p⟩,⟨m.A3,m.c3,m.q.d⟩] w K7 (hw.bh (i:=0) rfl) (fun s hs=>by simp only[er,bg,or_false] at hs;rcases hs with rfl|rfl|rfl;exact hw.rd hX;exact hw.rd hY;exact hw.rd hZ) (by show(flat _ 3).length*8<=_;rw[hfl];exact h8)) ?_;rintro _ _ ⟨AS,cS,rfl,rfl⟩
 refine Zl ?_;rw[<-hfl];exact⟨_,_,rfl,rfl⟩
def VM(m:Tm)(w0:World)(hm:m.rd w0 (Old w0))(hf:m.q.fit):
  CV 43 #[m.v] w0 (.bool (ep m.q)):=by
 refine Zq ?_;refine Z4t ?_;intros;refine OW.call Mx rfl rfl rfl rfl rfl rfl _ (fun w hw=>CQ m Tm.z w (by refine hw.oP ?_;assumption) (Tm.ael _ _) K2 Cf.T.Va) ?_;rintro _ _ ⟨rfl,rfl⟩
 refine Zk ?_;exact⟨rfl,rfl⟩
def ab3(A:am)(c:Nat)(ps:List (Int×Int))(w0:World)(hl:ps.length<=100)(hX:ce w0 A (pairs ps)):
  CV 66 #[.slice A ps.length c] w0 (.bool (ps.all fun x=>NS x.1 x.2)):=by
 refine Zq ?_;refine Z4t ?_;refine CW.av [5,6] 0 rfl rfl (fun mm mods Hm=>∃k:Nat,mm=ps.length-k/\mods=[(7,J k)]/\Hm=[]/\(k<=ps.length/\∀j,j<k->NS (ps.getD j (0,0)).1 (ps.getD j (0,0)).2=true)) (ps.length) ?_ ?_
 ·exact⟨[(7,_)],Kc,0,rfl,rfl,rfl,K1,fun j hj=>by omega⟩
 rintro _ _ _ ⟨k,rfl,rfl,rfl,hk,hI⟩;refine Zc ?_ ?_
 ·refine Zs ?_ ?_
  all_goals
   refine Zd ?_ ?_
   ·try exact⟨⟩
    all_goals
     refine Zk ?_;intros;exact⟨by rw[SJ (z:=(0,0)) (k:=k) K1 (by rw[NS,<-Bool.decide_and];exact aV K1)],rfl⟩
   try exact⟨⟩
   all_goals
    refine Z4t ?_;intros;refine⟨_,[(7,_)],[],_,?_,Kc,rfl,k+1,rfl,rfl,rfl,K1,qc hI (by simp only[NS,ay,ax];omega)⟩
    omega
 refine Zk ?_;intros;exact⟨by rw[NV (z:=(0,0)) (fun j hj=>hI j K1)],rfl⟩
def abc(A:am)(c:Nat)(m:Cf.T)(w0:World)(hX:ce w0 A (pairs (sD m))):CV 66 #[.slice A 8 c] w0 (.bool (numbers m)):=ab3 A c (sD m) w0 (by simp[sD]) hX
def aa3(B:Nat)(A:am)(c:Nat)(l:bv)(x:Int)(w0:World)(hB:ce w0 (some ⟨B,0,none⟩) [.slice A l.length c])(hl:l.length<=140737488355328)(hX:ce w0 A (ints l)):
  CV 67 #[J x,Y B 0] w0 (.bool (!decide (x∈l))):=by
 refine Zq ?_;refine Ze (k:=Z3 (k:=Zf (k:=Zi (k:=Zb (k:=Ze (k:=Z4z ?_))))));refine OW.pure rfl rfl rfl (PV.dR (k:=0) (oh hB) Nx rfl rfl rfl) ?_;refine Zg @VJ ?_;refine Zk ?_;exact⟨rfl,rfl⟩
def aa0(a b:Int)(A:am)(c:Nat)(l:ap)(t:Int)(m:Tm)(w0:World)(hl:l.length<=140737488355328)(hL:ce w0 A (aA l))(hm:m.rd w0 (Old w0))(hf:m.q.fit):
  CV 40 #[.agg #[J a,J b,.slice A l.length c],J t,m.v] w0 (J (eB a b l t m.q)):=by
 obtain⟨hX,hY,hZ⟩:=id hm;have hs1:=hf.h;have hs2:=hf.p;have hs3:=hf.d;have hsl:=jf m.q;have hpl:=L6 a b l t;refine Zq ?_;refine Zg @Em ?_;refine Zc ?_ ?_
 ·refine Zk ?_;intros;exact⟨aq (Value.int .i64) (wu K2).symm,rfl⟩
 refine Z4u ?_;intro _ _ _ _ _ hc;obtain⟨hv,ht⟩:=RH K2;refine Zg @VM ?_;refine Zc ?_ ?_
 ·refine Zk ?_;intros;have ha:ep m.q=true:=by assumption
  exact⟨by rw[eV hv ht,ha]<;>rfl,rfl⟩
 refine Z4t ?_;intro hc;refine OW.buildSlice (Et:=169) (sz:=2) (cs:=pairs (sD m.q)) (ps:=[(0,.tmp 25),(1,.tmp 29),(2,.tmp 33),(3,.tmp 36),(4,.tmp 39),(5,.tmp 42),(6,.tmp 45),(7,.tmp 48)]) rfl rfl rfl rfl rfl (by simp[sD]) K4 (fun w=>j1 w) (fun AL=>?_)
 refine Zg @abc ?_;refine Zc ?_ ?_
 ·refine Zk ?_;intros;have ha:ep m.q=false:=by assumption
  have hnf:numbers m.q=false:=by assumption
  exact⟨by rw[eV hv ht,ha];simp[aS,hnf],rfl⟩
 refine Z4u ?_;intro hc;have hnn:numbers m.q=true:=by assumption
 have hnl:=cz hnn;have hsi:Cv (bC m.q):=JU hf;refine Zg @Vv ?_;refine Z4t ?_;intros;refine OW.call Mx rfl rfl rfl rfl rfl rfl _ (fun w hw=>V4 _ _ (bC m.q) (fun p=> !decide (p∈(js a b l t).1)) 67 _ w Mx (fun w2 hw2 x=>by simpa using aa3 _ _ _ _ x w2 (hw2.rd (hw.dq (i:=2) rfl)) K1 (hw2.rd (hw.bh (i:=3) rfl))) K1 (hw.bh (i:=0) rfl)) ?_;rintro _ _ ⟨rfl,rfl⟩
 refine Zs ?_ ?_;all_goals first|(refine Z4x ?_;intros)|intros
 all_goals first|(refine OW.off rfl rfl rfl ?_)|(refine OW.call Mx rfl rfl rfl rfl rfl rfl _ (fun w hw=>aay _ _ (bC m.q) w hsi ?_ ?_) ?_;(focus (omega));(focus (exact hw.bh (i:=0) rfl));rintro _ _ ⟨rfl,rfl⟩)|skip
 all_goals
  refine Zd ?_ ?_
  ·try exact⟨⟩
   all_goals
    refine Zk ?_;intros;have ha:ep m.q=false:=by assumption
    first|exact⟨aq (Value.int .i64) (Yz hv ht ha K2).symm,rfl⟩|exact⟨aq (Value.int .i64) (YO hv ht ha K2).symm,rfl⟩
  try exact⟨⟩
  all_goals
   refine Zk ?_;intros;exact⟨aq (Value.int .i64) (XX hv ht hnn K2 K2).symm,rfl⟩
def Ht(g:aP)(t:Int)(w0:World)(hg:g.rd w0 (Old w0))(hgf:g.q.fit):
  CV 19 #[g.v,J t] w0 (.bool (ag g.q.ts t)):=by
 obtain⟨hX1,hX2,hX3,hX4⟩:=id hg;have hgl:=aP.cj hgf;refine Zq ?_;refine Zs ?_ ?_;all_goals first|(refine Zt ?_ ?_<;>try exact⟨⟩)|((iterate 7 (refine Z4x ?_;intros)))|skip
 all_goals first|(iterate 5 refine Z4x ?_;intros)|intros
 all_goals first|(refine OW.off rfl rfl rfl ?_)|(refine OW.call Mx rfl rfl rfl rfl rfl rfl _ (fun w hw=>VM (g.ts.getD t.toNat Tm.z) w (hw.oP (hg.m _ (Tm.mem K1))) (aP.HG hgf _ (Tm.mem K1))) ?_;rintro _ _ ⟨rfl,rfl⟩)|skip
 all_goals
  refine Zk ?_;intros;exact⟨by unfold ag;rw[aP.lz,aP.eJ];first|(rw[bu (show 0<=t by omega),bu (show t<(g.ts.length:Int) by omega)];rfl)|(rw[aV (show¬0<=t by omega)];rfl)|(rw[aV (show¬t<(g.ts.length:Int) by omega),Bool.and_false];rfl),rfl⟩
def OV(g:aP)(B:Nat)(x:UInt8)(w0:World)(hB:ce w0 (some ⟨B,0,none⟩) g.cells)(hg:g.rd w0 (Old w0))(hgf:g.q.fit):
  CV 73 #[U (x.toNat:Int),Y B 0] w0 (.bool (!bW g.q.ts x)):=by
 obtain⟨hX1,hX2,hX3,hX4⟩:=id hg;have hgl:=aP.cj hgf;have hu:=x.toNat_lt;refine Zq ?_;refine Ze (k:=Z3 (k:=Zf (k:=Zi (k:=Zb (k:=Ze (k:=Z3 (k:=ZJ (k:=ZK (k:=Z4A ?_)))))))));refine OW.split 6 rfl (fun hc=>?_) (fun hc=>?_)<;>(try simp only[bz,reduceCtorEq] at hc)<;>try exact Kf
 all_goals
  refine Z4K ?_
 all_goals
  refine ZM (k:=?_)
 all_goals
  refine Z4F ?_
 all_goals
  refine Z4A ?_
 all_goals
  first|(refine OW.put 10 (.bool false) (v:=.bool false) rfl rfl ?_)|(refine OW.split 10 rfl (fun hc=>?_) (fun hc=>?_)<;>(try simp only[bz,reduceCtorEq] at hc)<;>try exact Kf)
 all_goals
  first|(refine OW.off rfl rfl rfl ?_)|(refine OW.pure rfl rfl rfl (PV.KN (g:=g) (oh hB) Ix rfl rfl) ?_)
 all_goals
  refine Z4K ?_
 all_goals
  first|(refine OW.off rfl rfl rfl ?_)|(refine OW.pure rfl rfl rfl (PV.TJ Ux Ux rfl rfl ?_) ?_;(focus (first|exact wrap_u8 _|(simp only[IntKind.wrap_i64,IntKind.wrap_u64,IntKind.wrap_u8];omega))))
 all_goals
  first|(refine OW.off rfl rfl rfl ?_)|(refine OW.pure rfl rfl rfl (PV.UX rfl rfl rfl ?_) ?_;(focus (omega)))
 all_goals
  first|(refine OW.off rfl rfl rfl ?_)|((refine OW.call Mx rfl rfl rfl rfl rfl rfl _ (fun w hw=>Ht _ _ w ?_ ?_) ?_;(focus (refine hw.lN ?_;assumption));(focus (assumption));rintro _ _ ⟨rfl,rfl⟩))
 all_goals
  refine ZP (k:=?_)
 all_goals
  refine Z4F ?_
 all_goals
  refine Zf (k:=?_)
 all_goals
  refine Zi (k:=Zb (k:=Zm (k:=Z4P ?_)));exact⟨by unfold bW;first|(rw[bu (show(x.toNat:Int)=0 by omega)];rfl)|(rw[bu (show(x.toNat:Int)=255 by omega),Bool.or_true];rfl)|(rw[aV (show¬(x.toNat:Int)=0 by omega),aV (show¬(x.toNat:Int)=255 by omega)];rfl),rfl⟩
def Ph(g:aP)(w0:World):
  CO 42 #[g.v] w0 fun v Hn=>∃B:Nat,v=.func (.func 73) #[] #[Y B 0]/\Hn=[HP.aw B 28 g.cells]:=by
 refine Zq ?_;refine Zl ?_;intros;exact⟨_,rfl,rfl⟩
def VB(g:aP)(w0:World)(hg:g.rd w0 (Old w0))(hgf:g.q.fit):
  CO 39 #[g.v] w0 fun v Hn=>∃A2 c2,v=.slice A2 (Cf.aH g.q.ts g.ts.length).length c2/\Hn=[HP.row 3 1 A2 (Cf.aH g.q.ts g.ts.length).length c2 (ints (Cf.aH g.q.ts g.ts.length))]:=by
 obtain⟨hX1,hX2,hX3,hX4⟩:=id hg;have hgl:=aP.cj hgf;refine Zq ?_;refine Zx (k:=Zy (k:=Z4y ?_));intros;refine ZC (k:=Z4t ?_);refine CW.av [1,7] 1 rfl rfl (fun mm mods Hm=>∃k:Nat,∃D:am,∃e:Nat,mm=g.ts.length-k/\mods=[(8,J k),(3,.slice D (Cf.aH g.q.ts k).length e)]/\Hm=[HP.row 3 1 D (Cf.aH g.q.ts k).length e (ints (Cf.aH g.q.ts k))]/\k<=g.ts.length) (g.ts.length) ?_ ?_
 ·exact⟨[(8,_),(3,_)],Kc,0,none,0,rfl,rfl,rfl,K1⟩
 rintro _ _ _ ⟨k,D,e,rfl,rfl,rfl,hk⟩;have htl:=mg g.q.ts k;refine Zc ?_ ?_
 ·refine Zg @Ht ?_;refine Zc ?_ ?_
  ·refine Z4t ?_;intros;refine ZD df (k:=fun A2=>ZE (k:=fun A3 c3=>Z4t ?_));refine⟨_,[(8,_),(3,_)],[0,0],_,?_,Kc,rfl,k+1,_,_,rfl,by rw[sd K2]<;>rfl,by rw[sd K2],K1⟩
   omega
  refine Z4t ?_;intros;refine⟨_,[(8,_),(3,_)],[0,0],_,?_,Kc,rfl,k+1,D,e,rfl,by rw[vf K2]<;>rfl,by rw[vf K2],K1⟩
  omega
 refine Zl ?_;intros;obtain rfl:k=g.ts.length:=K1;exact⟨_,_,rfl,rfl⟩
def o0(g:aP)(w0:World)(hg:g.rd w0 (Old w0))(hgf:g.q.fit):
  CV 18 #[g.v] w0 (J (Cf.check g.q)):=by
 obtain⟨hX1,hX2,hX3,hX4⟩:=id hg;have hgl:=aP.cj hgf;refine Zq ?_;refine Zg @N4 ?_;refine Zc ?_ ?_
 ·refine Zk ?_;intros;exact⟨aq (Value.int .i64) (TE (g:=g.q) K2).symm,rfl⟩
 refine Z4u ?_;intro _ hc;have hv:cG g.a g.b g.l=true:=iM.1 K2;refine Zg @mP ?_;refine Zc ?_ ?_
 ·refine Zk ?_;intros;exact⟨aq (Value.int .i64) (Ub (g:=g.q) hv K2).symm,rfl⟩
 refine Z4u ?_;intro hc;have hs:=JK (s:=g.s) K2;have htn:=aP.eJ g;refine Zs ?_ ?_;all_goals first|(refine Z4x ?_;intros)|intros
 all_goals first|(refine OW.off rfl rfl rfl ?_)|(refine OW.call Mx rfl rfl rfl rfl rfl rfl _ (fun w hw=>VB _ w ?_ ?_) ?_;(focus (refine hw.lN ?_;assumption));(focus (assumption));rintro _ _ ⟨AT,cT,rfl,rfl⟩)|skip
 all_goals
  refine Zd ?_ ?_
  ·try exact⟨⟩
   all_goals
    refine Zk ?_;intros;exact⟨aq (Value.int .i64) (sR (g:=g.q) hv hs (by first|exact EN (by rw[htn];assumption)|exact EE (by rw[htn];assumption))).symm,rfl⟩
  try exact⟨⟩
  all_goals
   refine Z4u ?_;intros;have hten:¬((Cf.aH g.q.ts g.ts.length).length:Int)=0:=by assumption
   refine Z4t ?_;refine CW.av [1,31,32] 0 rfl rfl (fun mm mods Hm=>∃k:Nat,mm=g.ts.length-k/\mods=[(33,J k)]/\Hm=[]/\(k<=g.ts.length/\∀j,j<k->ib g.q j=true)) (g.ts.length) ?_ ?_
   ·exact⟨[(33,_)],Kc,0,rfl,rfl,rfl,K1,fun j hj=>by omega⟩
   rintro _ _ _ ⟨k,rfl,rfl,rfl,hk,hI⟩;refine Zc ?_ ?_
   ·have hgt:=aP.lz g k;refine Z4t ?_;intro hc _;refine OW.call Mx rfl rfl rfl rfl rfl rfl _ (fun w hw=>aa0 _ _ _ _ g.l (k:Int) (g.ts.getD k Tm.z) w K1 K27 (hw.oP (hg.m _ (Tm.mem K1))) (aP.HG hgf _ (Tm.mem K1))) ?_;rintro _ _ ⟨rfl,rfl⟩;refine Zc ?_ ?_
    ·refine Zk ?_;intros;obtain⟨h1,h2⟩:=EJ (g:=g.q) hv (show k<3 by omega) (by rw[hgt];assumption)
     rw[hgt] at h2;exact⟨aq (Value.int .i64) (h2.trans (sR (g:=g.q) hv hs (Q8 (by rw[htn];omega) h1)).symm),rfl⟩
    refine Z4t ?_;intros;refine⟨_,[(33,_)],[1,1],_,?_,Kc,rfl,k+1,rfl,rfl,rfl,K1,qc hI (JG hv K1 (by rw[hgt];assumption))⟩
    omega
   refine Z4u ?_;intro hc;refine ZQ (k:=?_);iterate 4 refine Z4v ?_
   refine ZR (k:=?_);refine Zg @Ph ?_;refine Z4w ?_;intro BS;refine Z4G ?_;refine OW.call Mx rfl rfl rfl rfl rfl rfl _ (fun w hw=>FL _ _ g.l (fun x=> !bW g.q.ts x) 73 _ w Mx (fun w2 hw2 x=>by simpa using OV g _ x w2 (hw2.rd (hw.dq (i:=0) rfl)) (hw2.lN (hw.lN hg)) hgf) K1 K27) ?_;rintro _ _ ⟨rfl,rfl⟩
   refine Zj (k:=Z4v ?_);refine E.AW.split 53 rfl (fun hc=>?_) (fun hc=>?_)<;>(try simp only[bz,reduceCtorEq] at hc)<;>try exact Kf
   all_goals
    iterate 3 refine Z4v ?_
    refine Z4H ?_;first|(refine OW.off rfl rfl rfl ?_)|((refine OW.call Mx rfl rfl rfl rfl rfl rfl _ (fun w hw=>Ph _ w) ?_;rintro _ _ ⟨BS,rfl,rfl⟩))
    refine Zj (k:=ZU (k:=?_));first|(refine OW.off rfl rfl rfl ?_)|((refine OW.call Mx rfl rfl rfl rfl rfl rfl _ (fun w hw=>FL _ _ g.s (fun x=> !bW g.q.ts x) 73 _ w Mx (fun w2 hw2 x=>by simpa using OV g _ x w2 (hw2.rd (hw.dq (i:=0) rfl)) (hw2.lN (hw.lN hg)) hgf) ?_ ?_) ?_;(focus (omega));(focus (refine hw.rd ?_;assumption));rintro _ _ ⟨rfl,rfl⟩))
    refine Zd ?_ ?_
    ·try exact⟨⟩
     all_goals
      refine Zk ?_;intros;first|exact⟨aq (Value.int .i64) (sR (g:=g.q) hv hs (Dy (GA K2))).symm,rfl⟩|exact⟨aq (Value.int .i64) (sR (g:=g.q) hv hs (ze (GA K2))).symm,rfl⟩
    try exact⟨⟩
    all_goals
     refine Z4u ?_;intros;have htok:bS g.q=true:=E0 (g:=g.q) (by rw[htn];have:=M7 (g:=g.q) (by rw[htn];exact hten);rwa[htn] at this) (by rw[htn];omega) (fun j hj=>hI j (by rw[htn] at hj;omega)) (Bo K2) (Bo K2) (Q7 (g:=g.q) (by rw[htn];exact hten))
     refine Zc ?_ ?_
     ·refine Zk ?_;intros;exact⟨aq (Value.int .i64) (Mb (g:=g.q) hv hs htok K2).symm,rfl⟩
     refine Zk ?_;intros;exact⟨aq (Value.int .i64) (Cf.mn (g:=g.q) hv hs htok K2).symm,rfl⟩
def Gn(g:aP)(t:Int)(w0:World)(hg:g.rd w0 (Old w0))(hgf:g.q.fit):
  CV 107 #[g.v,J t] w0 (.tuple #[.bool (dt g.q t).1,J (dt g.q t).2]):=by
 obtain⟨hX1,hX2,hX3,hX4⟩:=id hg;have hgl:=aP.cj hgf;have htn:=aP.eJ g;refine Zq ?_;refine Zg @o0 ?_;refine Zc ?_ ?_
 ·refine Zk ?_;intros;exact⟨by(have hcc:¬Cf.check g.q=0:=by assumption);simp[dt,hcc],rfl⟩
 refine Zs ?_ ?_
 all_goals
  refine Zd ?_ ?_
  ·try exact⟨⟩
   all_goals
    refine Zk ?_;intros;exact⟨by(have hcc:Cf.check g.q=0:=by assumption);simp only[dt,hcc,htn,if_true];rw[aa K1],rfl⟩
  try exact⟨⟩
  all_goals
   refine Zg @Ht ?_;refine Zk ?_;intros;exact⟨by(have hcc:Cf.check g.q=0:=by assumption);simp only[dt,hcc,htn,if_true];rw[ae K1],rfl⟩
def acu(g:aP)(w0:World)(hg:g.rd w0 (Old w0))(hgf:g.q.fit):
  CO 22 #[g.v] w0 fun v Hn=>∃A2 c2,v=.tuple #[.slice A2 ((iD g.q).1).length c2,J (iD g.q).2]/\Hn=[HP.row 3 1 A2 ((iD g.q).1).length c2 (ints ((iD g.q).1))]:=by
 obtain⟨hX1,hX2,hX3,hX4⟩:=id hg;have hgl:=aP.cj hgf;have htn:=aP.eJ g;refine Zq ?_;refine Zg @o0 ?_;refine Zc ?_ ?_
 ·refine Z4u ?_;intros;refine ZC (k:=?_);refine Zl ?_;rw[show iD g.q=([],Cf.check g.q) from ae K2];exact⟨none,0,rfl,rfl⟩
 refine Zg @VB ?_;refine Zl ?_;intros;rw[show iD g.q=(Cf.aH g.q.ts g.ts.length,0) from(aa K2).trans (by rw[htn])]
 exact⟨_,_,rfl,rfl⟩
end Go.Proofs.YtcgecopggfjojaaGreatDoor
