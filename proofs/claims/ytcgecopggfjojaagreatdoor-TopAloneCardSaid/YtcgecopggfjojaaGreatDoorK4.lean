/- Part 4: the logic, the plain laws and the walks behind TopAlone (lemmas only; each says its own conditions). -/
import Derived.Test.YtcgecopggfjojaaGreatDoorK3
set_option maxRecDepth 100000
set_option linter.all false
set_option maxHeartbeats 0
namespace Go.Proofs.YtcgecopggfjojaaGreatDoor
open Go Go.RowKit Go.Proofs.Tryz E Fl Cf Od Bf Cr Rt Tr Gw Dg Au Wi
section
def E.bz:=And.intro @E.b0 (And.intro @E.b1 (And.intro @E.b2 (And.intro @E.b3 (And.intro @E.b4 (And.intro @E.b5 (And.intro @E.b6 (And.intro @E.b7 (And.intro @E.b8 (And.intro @E.b9 (And.intro @E.GZ (And.intro @E.Gz (And.intro @E.Hu (And.intro @E.HY (And.intro @E.Gb (And.intro @E.Ic (And.intro @E.Iq (And.intro @E.HE (And.intro @E.HN (And.intro @E.HC (@E.G4))))))))))))))))))))
abbrev J(x:Int):Value:=.int .i64 x
abbrev U(x:Int):Value:=.int .u8 x
abbrev V(x:Int):Value:=.int .u64 x
abbrev O(x:Int):Value:=.int .u32 x
abbrev Y(b i:Nat):Value:=.pointer (some ⟨b,i,.none⟩)
abbrev ce(w:World)(A:Option Addr)(l:List Value):Prop:=E.Rd w (E.Old w) A l
abbrev CO(f:Nat)(a:Array Value)(w:World)(R:Value->List HP->Prop):=Calls prog f a w (bK w (Old w) R)
abbrev CF(f:Nat)(a:Array Value)(w:World)(S:Nat->Prop)(R:Value->List HP->Prop):=Calls prog f a w (bK w (Fm w S) R)
abbrev CV(f:Nat)(a:Array Value)(w:World)(x:Value):=Calls prog f a w (bK w (Old w) fun v Hn=>v=x/\Hn=[])
namespace E
def nth{α:Type}:List α->Nat->Option α
 |[],_=>none
 |a::_,0=>some a
 |_::l,n+1=>nth l n
theorem nth_eq{α:Type}:∀(l:List α) n,nth l n=l[n]?
 |[],_=>by simp[nth]
 |a::l,0=>by simp[nth]
 |a::l,n+1=>by simp[nth,nth_eq l n]
def und(P:Program):TypeDesc->Option TypeDesc
 |.named _ u=>match nth P.types.toList u with
  |some ⟨d,_,_,_,_,_,_,_,_,_⟩=>some d
  |none=>none
 |d=>some d
def agg:TypeDesc->Bool
 |.struct _=>true
 |.array _ _=>true
 |_=>false
def unf(P:Program)(t:Nat):Option TypeDesc:=match nth P.types.toList t with
 |some ⟨d,_,_,_,_,_,_,_,_,_⟩=>und P d
 |none=>none
def isf(P:Program)(t:Nat):Option Nat:=match nth P.types.toList t with
 |some ⟨d,_,s,_,_,_,_,_,_,_⟩=>match und P d with
  |some d2=>match agg d2 with
   |true=>some s
   |false=>none
  |none=>none
 |none=>none
def naf(P:Program)(t:Nat):Bool:=match unf P t with
 |some d2=>match agg d2 with
  |true=>false
  |false=>true
 |none=>false
def inf(P:Program)(t:Nat):Option (Value×Nat×Nat):=match nth P.types.toList t with
 |some ⟨_,_,s,b,_,_,_,some z,_,_⟩=>some (z,s,b)
 |_=>none
def fgf(P:Program)(t f:Nat):Option Nat:=match unf P t with
 |some (.struct fs)=>match nth fs.toList f with
  |some ⟨_,ty,off,_,_,_,_⟩=>match nth P.types.toList ty with
   |some ⟨_,_,k,_,_,_,_,_,_,_⟩=>match k with
    |0=>none
    |_+1=>some off
   |none=>none
  |none=>none
 |_=>none
def fnt:Func->Option Nat
 |⟨_,_,_,_,_,_,n,_,_,_,_,_,_,_,_,_⟩=>some n
section
variable{P:Program}{t:TypeId}{i:TypeInfo}{d:TypeDesc}{s b f off:Nat}{z:Value}
def Lo(h:nth P.types.toList t=some i):P.info? t=some i:=by
 rw[nth_eq,kh] at h
 have:=(ij.1 h).1
 unfold Tables.info?
 rw[aa this];exact h
def unx(h:unf P t=some d):P.underlying t=some d:=by
 unfold unf at h
 split at h
 ·rename_i d0 _ _ _ _ _ _ _ _ _ h2
  unfold Program.underlying
  rw[Lo h2]
  cases d0 with
  |named n u=>
   simp only[und] at h⊢
   split at h
   ·rename_i h3;rw[Lo h3];simpa using h
   ·simp at h
  |_=>simpa[und] using h
 ·simp at h
def unr{w:World}(h:unf P t=some d):(underlying t).run P w=.ok d w:=by simp[underlying,unx h]
def isx(h:isf P t=some s):Is P t s:=by
 unfold isf at h
 split at h
 ·rename_i d0 _ _ _ _ _ _ _ _ _ h2
  split at h
  ·rename_i d2 h3
   split at h
   ·rename_i h4
    cases h
    have hu:unf P t=some d2:=by unfold unf;rw[h2];exact h3
    refine⟨fun w=>?_,fun w=>?_⟩
    ·have e:=unr (w:=w) hu
     cases d2<;>simp_all [agg,isAgg,Sem.run_bind]
    ·simp[Go.sizeOf,typeInfo,Lo h2]
   ·simp at h
  ·simp at h
 ·simp at h
def nax(h:naf P t=true):Na P t:=by
 unfold naf at h
 split at h
 ·rename_i d2 hu
  intro w
  have e:=unr (w:=w) hu
  cases d2<;>simp_all [agg,isAgg,Sem.run_bind]
 ·simp at h
def inx(h:inf P t=some (z,s,b)):In P t z s b:=by
 unfold inf at h
 split at h
 ·rename_i h2
  unfold In;rw[Lo h2];simpa using h
 ·simp at h
def fgx(h:fgf P t f=some off):FG P t f off:=by
 unfold fgf at h
 split at h
 ·rename_i fs hu
  split at h
  ·rename_i hf
   split at h
   ·rename_i hs
    split at h
    ·simp at h
    ·cases h
     intro a w
     rw[nth_eq,kh] at hf
     have e:=unr (w:=w) hu
     simp[Instr.fieldAt,e,Sem.run_bind,hf,Instr.sureAddr,fieldPlace,Go.sizeOf,typeInfo,Lo hs]
   ·simp at h
  ·simp at h
 ·simp at h
def fax(h:fgf P t f=some off):FA P t f off:=fun b i w=>by have e:=fgx h ⟨b,i,none⟩ w;by_cases ho:off=0<;>simp_all [Addr.add]
def nmx{fn:Func}(h:nth P.funcs.toList f=some fn)(hb:fn.body.isSome=true)(hn:(fn.name== "runtime.NumGoroutine")=false):Nm P f:=⟨fn,by rw[nth_eq,kh] at h;exact h,hb,hn⟩
def cfx{fn:Func}{n:Nat}{c:Code}{vs:bi}{w0:World}{F:Nat->Prop}{H:List HP}{R:Value->List HP->Prop}
  (hf:nth P.funcs.toList f=some fn) (hnt:fnt fn=some n) (hb:fn.body=some c) (hs:Nat.ble vs.length n=true) (hw:HA w0 F H w0)
  (h:CW P ⟨n,none,false⟩ w0 F c (KR P fn ⟨n,none,false⟩ w0 F R) (ini 0 vs) H) (hsz:Nat.ble n 9999=true):Calls P f vs.toArray w0 (bK w0 F R):=
 LD (by rw[nth_eq,kh] at hf;exact hf) (by cases fn;simpa[fnt] using hnt) hb hs hw h hsz
end
end E
class CB(t:Nat)(p:Array (Nat×Value))(v:outParam Value):Prop where
 h:∀w,(Instr.build t p).run prog w=.ok v w
class CFx{α:Type}(f:α->bi)(sz:outParam Nat)(z:outParam α):Prop where
 h:E.Fx f sz
def Qf{α:Type}{f:α->bi}{sz:Nat}{z:α}[i:CFx f sz z](l:List α):(E.fl f l).length=l.length*sz:=i.h.ct l
def Qg{α:Type}{f:α->bi}{sz:Nat}{z:α}[i:CFx f sz z](l:List α)(k:Nat)(u:α):(E.fl f (l.set k u)).length=l.length*sz:=i.h.iW
namespace E
section
variable{P:Program}{n:Fr}{w0:World}{F:Nat->Prop}{l:Env}{H:List HP}{o:Oper}{α:Type}{f:α->bi}{sz:Nat}{u:α}{x:Operand}{A:am}{k q j m s g off:Nat}{t:TypeId}{xs:List α}{v:Value}{vs:bi}
def PV.bld{ps:List (Nat×Operand)}{vs:bi}{v:Value}{p:Array (Nat×Value)}(ho:o.op=.build t ps.toArray)(hx:evs l (ps.map (·.2))=some vs)(hp:((ps.map (·.1)).zip vs).toArray=p)[c:CB t p v]:PV prog n w0 F l H o v:=PV.build ho hx (by rw[hp];exact c.h)
def PV.II{i:Nat}{vl:bi}(ho:o.op=.extract x i)(hx:ev l x=some (.tuple vl.toArray))(hv:vl[i]? =some v):PV P n w0 F l H o v:=PV.extract ho hx (by simpa using hv)
def PV.xo32{t t':TypeId}{x y:Operand}{p q:Int}(ho:o.op=.binOp .xor t x y t')(hx:ev l x=some (.int .u32 p))(hy:ev l y=some (.int .u32 q)):PV P n w0 F l H o (.int .u32 (IntKind.u32.wrap ((BitVec.ofInt IntKind.u32.bits p^^^BitVec.ofInt IntKind.u32.bits q).toNat:Nat))):=PV.ad8 ho hx hy
def PV.an32{t t':TypeId}{x y:Operand}{p q:Int}(ho:o.op=.binOp .and t x y t')(hx:ev l x=some (.int .u32 p))(hy:ev l y=some (.int .u32 q)):PV P n w0 F l H o (.int .u32 (IntKind.u32.wrap ((BitVec.ofInt IntKind.u32.bits p&&&BitVec.ofInt IntKind.u32.bits q).toNat:Nat))):=PV.ab2 ho hx hy
def PV.or32{t t':TypeId}{x y:Operand}{p q:Int}(ho:o.op=.binOp .or t x y t')(hx:ev l x=some (.int .u32 p))(hy:ev l y=some (.int .u32 q)):PV P n w0 F l H o (.int .u32 (IntKind.u32.wrap ((BitVec.ofInt IntKind.u32.bits p|||BitVec.ofInt IntKind.u32.bits q).toNat:Nat))):=PV.tI ho hx hy
def PV.an64{t t':TypeId}{x y:Operand}{p q:Int}(ho:o.op=.binOp .and t x y t')(hx:ev l x=some (.int .u64 p))(hy:ev l y=some (.int .u64 q)):PV P n w0 F l H o (.int .u64 (IntKind.u64.wrap ((BitVec.ofInt IntKind.u64.bits p&&&BitVec.ofInt IntKind.u64.bits q).toNat:Nat))):=PV.ab2 ho hx hy
def PV.a32{t t':TypeId}{x y:Operand}{p q:Int}(ho:o.op=.binOp .add t x y t')(hx:ev l x=some (.int .u32 p))(hy:ev l y=some (.int .u32 q)):PV P n w0 F l H o (.int .u32 (IntKind.u32.wrap (p+q))):=PV.add ho hx hy
def PV.i1{z:α}[iz:CFx f sz z](hR:∀w,HA w0 F H w->Rd w (Old w) A (fl f xs))(ho:o.op=.nilCheck x)(hx:ev l x=some (bB A k))(h:0<xs.length):PV P n w0 F l H o (bB A k):=PV.jh iz.h hR ho hx h
def PV.i2{z:α}[iz:CFx f sz z](hR:∀w,HA w0 F H w->Rd w (Old w) A (fl f (xs.set q u)))(ho:o.op=.nilCheck x)(hx:ev l x=some (bB A k))(h:0<xs.length):PV P n w0 F l H o (bB A k):=PV.IX iz.h hR ho hx h
def PV.i3{z:α}[iz:CFx f sz z](hR:∀w,HA w0 F H w->Rd w (Old w) A (fl f xs))(hF:FG P s g off)(ho:o.op=.fieldAddr s x g)(hx:ev l x=some (bB A (k*sz)))(hk:k<xs.length):PV P n w0 F l H o (bB A (k*sz+off)):=PV.eU iz.h hR hF ho hx hk
def PV.i4{z:α}[iz:CFx f sz z](hR:∀w,HA w0 F H w->Rd w (Old w) A (fl f (xs.set k u)))(hF:FG P s g off)(ho:o.op=.fieldAddr s x g)(hx:ev l x=some (bB A (k*sz)))(hk:k<xs.length):PV P n w0 F l H o (bB A (k*sz+off)):=PV.Dc iz.h hR hF ho hx hk
def PV.i5{z:α}[iz:CFx f sz z](hR:∀w,HA w0 F H w->Rd w (Old w) A (fl f xs))(ht:Na P t)(ho:o.op=.load t x)(hx:ev l x=some (bB A (k*sz+j)))(hk:k<xs.length)(hv:(f (xs.getD k z))[j]? =some v):PV P n w0 F l H o v:=PV.oZ z iz.h hR ht ho hx hk hv
def PV.i6{z:α}[iz:CFx f sz z](hR:∀w,HA w0 F H w->Rd w (Old w) A (fl f xs))(ht:Is P t sz)(ho:o.op=.load t x)(hx:ev l x=some (bB A (k*sz)))(hk:k<xs.length):PV P n w0 F l H o (.agg (f (xs.getD k z)).toArray):=PV.nm z iz.h hR ht ho hx hk
def PV.i7{z:α}[iz:CFx f sz z](hR:∀w,HA w0 F H w->Rd w (Old w) A (fl f xs))(ht:Is P t m)(ho:o.op=.load t x)(hx:ev l x=some (bB A (k*sz+j)))(hk:k<xs.length)(hs:slc (f (xs.getD k z)) j m=some vs)(hm:0<m):PV P n w0 F l H o (.agg vs.toArray):=PV.kv z iz.h hR ht ho hx hk hs hm
end
end E
instance:CFx Mt.cs 3 Mt.z:=⟨Mt.fx⟩
instance:CFx Cd.cs 2 Cd.z:=⟨Cd.fx⟩
instance:CFx Sg.cs 3 Sg.z:=⟨Sg.fx⟩
instance:CFx Cr.R.cs 6 Cr.R.z:=⟨Cr.R.fx⟩
instance:CFx Hd.cs 7 Hd.z:=⟨Hd.fx⟩
instance:CFx Cw.cells 6 Cw.z:=⟨Cw.fx⟩
instance:CFx Od.O.cs 6 Od.O.z:=⟨Od.O.fx⟩
instance:CFx Aw.cells 36 Aw.z:=⟨Aw.fx⟩
instance:CFx Ow.cells 3 Ow.z:=⟨Ow.fx⟩
instance:CFx Sw.cells 6 Sw.z:=⟨Sw.fx⟩
instance:CFx Cl.cs 4 Cl.z:=⟨Cl.fx⟩
instance:CFx Rc.cw 35 Rc.z:=⟨Rc.fx⟩
instance:CFx Yb.cs 1 Yb.z:=⟨Yb.fx⟩
instance:CFx Tr.Fin.cs 2 Tr.Fin.z:=⟨Tr.Fin.fx⟩
instance:CFx Ju 1 0:=⟨My⟩
namespace E
section
variable{P:Program}{n:Fr}{w0:World}{F:Nat->Prop}{K:Kt}{l:Env}{H:List HP}{o o2:Oper}{ops:Array Oper}{rest:List Oper}{j s:Nat}{want b:Bool}
def OW.gb(hg:gd ops l o.guard=some b)(k:gd ops l o.guard=some b->OW P n w0 F ops K (o::rest) l H):OW P n w0 F ops K (o::rest) l H:=k hg
def QW.gb(hg:gd ops l o.guard=some b)(k:gd ops l o.guard=some b->QW P n w0 F ops K (o::rest) l H):QW P n w0 F ops K (o::rest) l H:=k hg
theorem AW.pk{HS:List HP}{T:List Nat}{fuel:Nat}{listed:Array Bool}(i:Nat)(hi:ops[i]? =some o)(hs:Region.noSelect ops=true)(hf:Region.free .any ops listed i=true)(hr:(Region.ready .any ops listed).contains i=true)(hg:gd ops l o.guard=some b)(k:ops[i]? =some o->Region.noSelect ops=true->Region.free .any ops listed i=true->(Region.ready .any ops listed).contains i=true->gd ops l o.guard=some b->AW P n w0 F ops K HS T fuel listed l H):AW P n w0 F ops K HS T fuel listed l H:=k hi hs hf hr hg
def sn{H:List HP}:∃is,E.sels H is=some []:=⟨[],rfl⟩
def sc{H s r:List HP}{q:HP}(i:Nat)(h:sel H i=some (q,s))(k:∃is,sels s is=some r):∃is,sels H is=some (q::r):=by obtain⟨is,e⟩:=k;exact⟨i::is,by rw[sels,h];simp only[e]⟩
def AW.nix{C:Env->List HP->Prop}{HS:List HP}(hs:∃is,E.sels H is=some HS)(h:C l H):OW P n w0 F ops (AH HS K C) [] l H:=OW.nil (.inl ⟨rfl,hs,h⟩)
def OW.bsl{d t Et len:Nat}{ps:List (Nat×Operand)}{vs:bi}(sz:Nat)(cs:bi)(ho:o.op=.buildSlice t len ps.toArray)(hx:evs l (ps.map (·.2))=some vs)(h:∀w,(Instr.buildSlice t len ((ps.map (·.1)).zip vs).toArray).run P w=.ok (.slice (some ⟨w.heap.size,0,none⟩) len len) (w.alloc (.cells cs.toArray Et)))(k:∀A,OW P n w0 F ops K rest ((d,.slice A len len)::l) (HP.row Et sz A len len cs::H))(hg:gd ops l o.guard=some true:=by rfl)(hd:o.dst=some d:=by rfl)(hn:Nat.blt d n.sz=true:=by rfl)(hl:cs.length=len*sz:=by first|rfl|simp|fail)(hm:len<=maxLen:=by unfold maxLen;omega):OW P n w0 F ops K (o::rest) l H:=OW.buildSlice ho hg hd hn hx hl hm h k
def AW.pq{HS:List HP}{T:List Nat}{fuel:Nat}{listed:Array Bool}(i:Nat)(k:ops[i]? =some o->Region.noSelect ops=true->Region.free .any ops listed i=true->(Region.ready .any ops listed).contains i=true->gd ops l o.guard=some b->AW P n w0 F ops K HS T fuel listed l H)(hi:ops[i]? =some o:=by rfl)(h3:(Region.free .any ops listed i&&((Region.ready .any ops listed).contains i&&Region.noSelect ops))=true:=by decide+kernel)(hg:gd ops l o.guard=some b:=by rfl):AW P n w0 F ops K HS T fuel listed l H:=by simp only[ay] at h3;exact k hi h3.2.2 h3.1 h3.2.1 hg
def AW.pn{HS:List HP}{T:List Nat}{fuel j:Nat}{listed:Array Bool}(k:ops[j+1]? =some o->Region.noSelect ops=true->Region.free .any ops (listed.setIfInBounds j true) (j+1)=true->(Region.ready .any ops (listed.setIfInBounds j true)).contains (j+1)=true->gd ops l o.guard=some b->AW P n w0 F ops K HS T fuel (listed.setIfInBounds j true) l H)(hi:ops[j+1]? =some o:=by rfl)(h3:(Region.free .any ops (listed.setIfInBounds j true) (j+1)&&((Region.ready .any ops (listed.setIfInBounds j true)).contains (j+1)&&Region.noSelect ops))=true:=by decide+kernel)(hg:gd ops l o.guard=some b:=by rfl):AW P n w0 F ops K HS T fuel (listed.setIfInBounds j true) l H:=AW.pq (j+1) k hi h3 hg
def OW.set(b2:Value){v:Value}(ho:o.guard=some (j,want))(hj:ops[j]? =some o2)(hs:o2.dst=some s)(hv:lk l s=some v)(he:v=b2)(k:OW P n w0 F ops K (o::rest) ((s,b2)::l) H):OW P n w0 F ops K (o::rest) l H:=OW.put s b2 hv he k
def QW.set(b2:Value){v:Value}(ho:o.guard=some (j,want))(hj:ops[j]? =some o2)(hs:o2.dst=some s)(hv:lk l s=some v)(he:v=b2)(k:QW P n w0 F ops K (o::rest) ((s,b2)::l) H):QW P n w0 F ops K (o::rest) l H:=QW.put s b2 hv he k
theorem OW.lt(b:Bool)(ho:o.guard=some (j,want))(hj:ops[j]? =some o2)(hs:o2.dst=some s)(hv:lk l s=some (.bool b))(k:OW P n w0 F ops K (o::rest) l H):OW P n w0 F ops K (o::rest) l H:=k
theorem QW.lt(b:Bool)(ho:o.guard=some (j,want))(hj:ops[j]? =some o2)(hs:o2.dst=some s)(hv:lk l s=some (.bool b))(k:QW P n w0 F ops K (o::rest) l H):QW P n w0 F ops K (o::rest) l H:=k
def OW.spl(ho:o.guard=some (j,want))(hj:ops[j]? =some o2)(hs:o2.dst=some s)(hv:lk l s=some (.bool b))(ht:b=true->OW P n w0 F ops K (o::rest) ((s,.bool true)::l) H)(hf:b=false->OW P n w0 F ops K (o::rest) ((s,.bool false)::l) H):OW P n w0 F ops K (o::rest) l H:=OW.split s hv ht hf
def QW.spl(ho:o.guard=some (j,want))(hj:ops[j]? =some o2)(hs:o2.dst=some s)(hv:lk l s=some (.bool b))(ht:b=true->QW P n w0 F ops K (o::rest) ((s,.bool true)::l) H)(hf:b=false->QW P n w0 F ops K (o::rest) ((s,.bool false)::l) H):QW P n w0 F ops K (o::rest) l H:=QW.split s hv ht hf
end
end E
def Ux{p:Prop}(h:p:=by first|exact unx rfl|fail):p:=h
def Nx{p:Prop}(h:p:=by first|exact nax rfl|fail):p:=h
def Mx{p:Prop}(h:p:=by first|exact nmx rfl rfl rfl|fail):p:=h
def Cx{p:Prop}(h:p:=by first|exact fun _ _=>rfl|fail):p:=h
def Tx{p:Prop}(h:p:=by first|exact⟨fun _ _=>rfl,fun _=>rfl⟩|fail):p:=h
def Fx{p:Prop}(h:p:=by first|exact fun _ _=>rfl|fail):p:=h
def Ix{p:Prop}(h:p:=by first|exact isx rfl|fail):p:=h
def Ax{p:Prop}(h:p:=by first|exact fax rfl|fail):p:=h
def Gx{p:Prop}(h:p:=by first|exact fgx rfl|fail):p:=h
def Jx{p:Prop}(h:p:=by first|exact inx rfl|fail):p:=h
def Zq{f:Nat}{fn:Func}{n:Nat}{c:Code}{vs:bi}{w0:World}{R:Value->List HP->Prop}(h:CW prog ⟨n,none,false⟩ w0 (Old w0) c (KR prog fn ⟨n,none,false⟩ w0 (Old w0) R) (ini 0 vs) [])(hf:nth Tryz.prog.funcs.toList f=some fn:=by rfl)(hn:fnt fn=some n:=by rfl)(hb:fn.body=some c:=by rfl)(hs:Nat.ble vs.length n=true:=by rfl)(hz:Nat.ble n 9999=true:=by rfl):Calls prog f vs.toArray w0 (bK w0 (Old w0) R):=cfx hf hn hb hs (HA.start w0) h hz
def Zp{f:Nat}{fn:Func}{n:Nat}{c:Code}{vs:bi}{w0:World}{F:Nat->Prop}{H:List HP}{R:Value->List HP->Prop}(hw:HA w0 F H w0)(h:CW prog ⟨n,none,false⟩ w0 F c (KR prog fn ⟨n,none,false⟩ w0 F R) (ini 0 vs) H)(hf:nth Tryz.prog.funcs.toList f=some fn:=by rfl)(hn:fnt fn=some n:=by rfl)(hb:fn.body=some c:=by rfl)(hs:Nat.ble vs.length n=true:=by rfl)(hz:Nat.ble n 9999=true:=by rfl):Calls prog f vs.toArray w0 (bK w0 F R):=cfx hf hn hb hs hw h hz
def ZX{f:Nat}{fn:Func}{n:Nat}{c:Code}{vs:bi}{w0:World}{F:Nat->Prop}{H:List HP}{R:Value->List HP->Prop}{X:List PanicEntry->List HP->Prop}(hw:HA w0 F H w0)(h:CW prog ⟨n,none,false⟩ w0 F c (KRX prog fn ⟨n,none,false⟩ w0 F R X) (ini 0 vs) H)(hf:nth Tryz.prog.funcs.toList f=some fn:=by rfl)(hn:fnt fn=some n:=by rfl)(hb:fn.body=some c:=by rfl)(hs:Nat.ble vs.length n=true:=by rfl)(hz:Nat.ble n 9999=true:=by rfl):Calls prog f vs.toArray w0 (db w0 F R X):=IS (by rw[nth_eq,kh] at hf;exact hf) (by cases fn;simpa[fnt] using hn) hb hs hw h hz
def Js{p:Prop}(h:p:=by first|exact In.size Jx|fail):p:=h
def Jr{p:Prop}(h:p:=by first|exact In.zr Jx|fail):p:=h
attribute [local irreducible] CW OW QW E.AW lJ blockK PV
universe u v w y z
structure Wz(p:Prop):Prop where
 k:p
structure Mk:Prop where
section
variable{G X Y p0 p1 p2 p3 p4 p5 p6 q r:Prop}
def Kf{p:Prop}(h:p:=by exfalso;first|assumption|contradiction|omega):p:=h
def Kc{p:Prop}(h:p:=by first|((repeat(first|exact aI|refine⟨rfl,?_⟩));done)|fail):p:=h
def Kp(h:Wz X->G:=by intro Qk;(repeat(first|refine jr ?_|refine kK ?_|refine QX ?_));exact Qk.k)(k:X):G:=h ⟨k⟩
theorem K0{p:Prop}(h:p:=by kernel_rfl):p:=h
def K2{p:Prop}(h:p:=by assumption):p:=h
def K3{p:Prop}(h:p:=by first|omega|(simp only[aF,bI,gL] at*;omega)|(unfold maxLen at*;omega)|(simp only[aF,bI,gL];unfold maxLen;omega)):p:=h
def K4{p:Prop}(h:p:=by unfold maxLen;omega):p:=h
def K5{p:Prop}(h:p:=by first|rfl|(simp;done)|(simp;omega)|(simp only[gr,dC];assumption)|omega):p:=h
def K6{p:Prop}(h:p:=by decide):p:=h
def K7{p:Prop}(h:p:=by simp):p:=h
def K8{p:Prop}(h:p:=by simp_all):p:=h
def K9{p:Prop}(h:p:=by first|rfl|(simp;done)|(simp;omega)|(simp only[gr,dC];assumption)|omega|exact Gw.Tk.len _ (by first|assumption|rfl|(simp;done))):p:=h
def K10{p:Prop}(h:p:=by first|(simp;done)|(simp;omega)):p:=h
def K11{p:Prop}(h:p:=by rw[hs9]):p:=h
def K12{p:Prop}(h:p:=by rw[hul,lj]):p:=h
def K13{p:Prop}(h:p:=by simp only[Sh.cells,lj];rw[hs9]):p:=h
def K14{p:Prop}(h:p:=by first|rfl|exact vP _|exact mJ _):p:=h
def K15{p:Prop}(h:p:=by first|rfl|(simp;done)|omega):p:=h
def K16{p:Prop}(h:p:=by first|exact Ck|exact He|(simp[Value.oneCell'];done)):p:=h
def K17{p:Prop}(h:p:=by simp;omega):p:=h
def K18{p:Prop}(h:p:=by first|rfl|exact vP _|exact mJ _|exact Gw.Tk.one _):p:=h
def K19{p:Prop}(h:p:=by first|rfl|assumption|(simp_all;done)):p:=h
def K20{p:Prop}(h:p:=by rw[hst]<;>rfl):p:=h
def K21{p:Prop}(h:p:=by rw[hul,ll]):p:=h
def K22{p:Prop}(h:p:=by simp only[Sh.cells,ll]):p:=h
def K23{p:Prop}(h:p:=by first|rfl|exact aq Value.bool (by first|assumption|omega|(simp;done)|(simp_all;done)|(simp;intros;simp_all;done))):p:=h
def K24{p:Prop}(h:p:=by simpa using hc):p:=h
def K25{p:Prop}(h:p:=by rw[bN];omega):p:=h
def K26{p:Prop}(h:p:=by simp_all;done):p:=h
def K27{p:Prop}(h:p:=by refine hw.rd ?_;assumption):p:=h
def K28{p:Prop}(h:p:=by show(0:Int)<=_/\_<256;have:=hqf.kd;omega):p:=h
def K29{p:Prop}(h:p:=by refine hw.lN ?_;assumption):p:=h
def K30{p:Prop}(h:p:=by unfold gE;omega):p:=h
def K31{p:Prop}(h:p:=by rw[aM]):p:=h
def K32{p:Prop}(h:p:=by simp only[Sh.cells,aM]):p:=h
def K33{p:Prop}(h:p:=by unfold Tr.cmp;repeat(first|rw[aa (by omega)]|rw[ae (by omega)])):p:=h
def K34{p:Prop}(h:p:=by(try simp only[aF,eS]);omega):p:=h
def K35{p:Prop}(h:p:=by first|exact hw.bh (i:=0) rfl|exact hw.bh (i:=1) rfl|exact hw.bh (i:=2) rfl|exact hw.bh (i:=3) rfl|exact hw.bh (i:=4) rfl|exact hw.bh (i:=5) rfl):p:=h
def K36{p:Prop}(h:p:=by first|rfl|(simp;done)|(simp;omega)|(simp only[gr,dC];assumption)|omega|exact Gw.Tk.len _ (by first|assumption|rfl|(simp;done))|(rw[dC,bN];omega)):p:=h
def K37{p:Prop}(h:p:=by rw[e9]<;>rfl):p:=h
def K38{p:Prop}(h:p:=by show(0:Int)<=_/\_<256;have:=hxf.kd;omega):p:=h
def K39{p:Prop}(h:p:=by rw[h3]<;>rfl):p:=h
def K40{p:Prop}(h:p:=by first|omega|decide):p:=h
def K41{p:Prop}(h:p:=by rw[hq2];exact hv):p:=h
def K42{p:Prop}(h:p:=by rw[TR]):p:=h
def K43{p:Prop}(h:p:=by rw[hul];omega):p:=h
def K44{p:Prop}(h:p:=by simp only[o5]):p:=h
def K45{p:Prop}(h:p:=by simp only[Sh.cells,o5]):p:=h
def K46{p:Prop}(h:p:=by first|exact hw.j0 (i:=2) rfl 0 rfl|exact hw.j0 (i:=3) rfl 0 rfl):p:=h
def K47{p:Prop}(h:p:=by first|exact hw.j0 (i:=2) rfl 1 rfl|exact hw.j0 (i:=3) rfl 1 rfl):p:=h
def K48{p:Prop}(h:p:=by simp[Cw.mem]):p:=h
def K49{p:Prop}(h:p:=by first|exact sI (k:=4) (m:=2) (hw.bh (i:=0) rfl) (by decide) (by decide)|exact sI (k:=4) (m:=2) (hw.bh (i:=1) rfl) (by decide) (by decide)):p:=h
def K50{p:Prop}(h:p:=by unfold xH;simp_all;try omega):p:=h
def K51{p:Prop}(h:p:=by split<;>omega):p:=h
def K52{p:Prop}(h:p:=by first|exact Si.rf (hw.aL (i:=5) rfl)|exact Si.rf (hw.aL (i:=6) rfl)):p:=h
def K53{p:Prop}(h:p:=by first|exact Si.rf (hw.aL (i:=1) rfl)|exact Si.rf (hw.aL (i:=2) rfl)|exact Si.rf (hw.aL (i:=3) rfl)|exact Si.rf (hw.aL (i:=4) rfl)|exact Si.rf (hw.aL (i:=5) rfl)|exact Si.rf (hw.aL (i:=6) rfl)|exact Si.rf (hw.aL (i:=7) rfl)):p:=h
def K54{p:Prop}(h:p:=by first|assumption|(exact Gl (by omega))|exact E.wf_wrap _):p:=h
def K55{p:Prop}(h:p:=by simp only[IntKind.wrap,IntKind.signed,IntKind.bits];simp;omega):p:=h
def K56{p:Prop}(h:p:=by unfold acE;simp;omega):p:=h
def K57{p:Prop}(h:p:=by unfold dD;simp_all [last];try omega):p:=h
def K58{p:Prop}(h:p:=by rw[de,im];(try simp only[Od.within_iff,PQ] at*);simp only[last,ke,ax,false_iff,true_iff];omega):p:=h
def K59{p:Prop}(h:p:=by first|rfl|exact aq Value.bool (by first|assumption|omega|(simp;done)|(simp_all;done)|(rw[de];simp only[E.b0,E.b1,E.b2,E.b3,E.b4,E.b5,E.b6,E.b7,E.b8,E.b9,E.GZ,E.Gz,E.Hu,E.HY,E.Gb,E.Ic,E.Iq,E.HE,E.HN,E.HC,E.G4,eq_self,ke,ax,false_iff,true_iff,iff_true,iff_false];(try simp only[last]);omega))):p:=h
def K60{p:Prop}(h:p:=by simp only[gL,aF,yT];omega):p:=h
def K61{p:Prop}(h:p:=by rw[uf (by omega)]<;>rfl):p:=h
def K62{p:Prop}(h:p:=by rw[ow (by omega)]<;>rfl):p:=h
def K63{p:Prop}(h:p:=by simp[Cw.mem,Bk.mem]):p:=h
def K64{p:Prop}(h:p:=by first|assumption|omega):p:=h
def K65{p:Prop}(h:p:=by rw[de];first|(simp_all;done)|(simp_all;omega)):p:=h
def K66{p:Prop}(h:p:=by unfold Pr;rw[af hb.1];exact hp):p:=h
def K67{p:Prop}(h:p:=by first|exact Fe.rw (Si.rf (hw.aL (i:=1) rfl)) (by omega)|exact Fe.rw (Si.rf (hw.aL (i:=2) rfl)) (by omega)|exact Fe.rw (Si.rf (hw.aL (i:=3) rfl)) (by omega)|exact Fe.rw (Si.rf (hw.aL (i:=4) rfl)) (by omega)|exact Fe.rw (Si.rf (hw.aL (i:=5) rfl)) (by omega)|exact Fe.rw (Si.rf (hw.aL (i:=6) rfl)) (by omega)|exact Fe.rw (Si.rf (hw.aL (i:=7) rfl)) (by omega)|exact Fe.rw (Si.rf (hw.aL (i:=8) rfl)) (by omega)):p:=h
def K68{p:Prop}(h:p:=by rw[O9 (by assumption)];try rfl):p:=h
def K69{p:Prop}(h:p:=by first|exact hw.gM (i:=0) rfl|exact hw.gM (i:=1) rfl|exact hw.gM (i:=2) rfl|exact hw.gM (i:=3) rfl|exact hw.gM (i:=4) rfl|exact hw.gM (i:=5) rfl):p:=h
def K70{p:Prop}(h:p:=by first|exact hw.bh (i:=0) rfl|exact hw.bh (i:=1) rfl|exact hw.bh (i:=2) rfl|exact hw.bh (i:=3) rfl|exact hw.bh (i:=4) rfl|exact hw.bh (i:=5) rfl|exact hw.bh (i:=6) rfl|exact hw.bh (i:=7) rfl|exact hw.bh (i:=8) rfl):p:=h
def K71{p:Prop}(h:p:=by first|exact hw.aL (i:=0) rfl|exact hw.aL (i:=1) rfl|exact hw.aL (i:=2) rfl|exact hw.aL (i:=3) rfl|exact hw.aL (i:=4) rfl|exact hw.aL (i:=5) rfl|exact hw.aL (i:=6) rfl|exact hw.aL (i:=7) rfl|exact hw.aL (i:=8) rfl):p:=h
def Z0(h:Wz X->G:=by intro Qk;refine CW.draw mixed K0 ?_;exact Qk.k)(k:X):G:=h ⟨k⟩
def Z2(h:Wz X->G:=by intro Qk;refine OW.o6 hn rfl rfl rfl rfl rfl rfl _ (fun w hw=>hq w hw.base _) ?_;rintro _ _ ⟨rfl,rfl⟩;exact Qk.k)(k:X):G:=h ⟨k⟩
def Z3(h:Wz X->G:=by intro Qk;refine CW.region ?_;exact Qk.k)(k:X):G:=h ⟨k⟩
def Z4(h:Wz X->G:=by intro Qk;refine QW.pure rfl rfl rfl (PV.move rfl rfl) ?_;exact Qk.k)(k:X):G:=h ⟨k⟩
def Z5(h:Wz X->G:=by intro Qk;(first|(refine QW.off rfl rfl rfl ?_)|(refine QW.pure rfl rfl rfl (PV.fieldAddr Ax rfl rfl) ?_));exact Qk.k)(k:X):G:=h ⟨k⟩
def Z6(h:Wz X->G:=by intro Qk;(first|(refine QW.off rfl rfl rfl ?_)|(refine QW.pure rfl rfl rfl (PV.load (i:=0) Nx rfl rfl rfl rfl) ?_));exact Qk.k)(k:X):G:=h ⟨k⟩
def Z7(h:Wz X->G:=by intro Qk;(first|(refine QW.off rfl rfl rfl ?_)|(refine QW.pure rfl rfl rfl (PV.neq rfl rfl rfl) ?_));exact Qk.k)(k:X):G:=h ⟨k⟩
def Z8(h:Wz X->G:=by intro Qk;(first|(refine QW.pure rfl rfl rfl (PV.yi rfl rfl rfl) ?_)|(refine QW.pure rfl rfl rfl (PV.yo rfl rfl rfl) ?_));exact Qk.k)(k:X):G:=h ⟨k⟩
def Z9(h:Wz X->G:=by intro Qk;(first|(refine QW.off rfl rfl rfl ?_)|(refine QW.pure rfl rfl rfl (PV.move rfl rfl) ?_));exact Qk.k)(k:X):G:=h ⟨k⟩
def Zb(h:Wz X->G:=by intro Qk;refine iR ?_;exact Qk.k)(k:X):G:=h ⟨k⟩
def Ze(h:Wz X->G:=by intro Qk;refine CW.seq ?_;exact Qk.k)(k:X):G:=h ⟨k⟩
def Zf(h:Wz X->G:=by intro Qk;refine OW.pure rfl rfl rfl (PV.assign rfl rfl) ?_;exact Qk.k)(k:X):G:=h ⟨k⟩
def Zi(h:Wz X->G:=by intro Qk;refine OW.nil ?_;exact Qk.k)(k:X):G:=h ⟨k⟩
def Zm(h:Wz X->G:=by intro Qk;refine CW.ret ?_;exact Qk.k)(k:X):G:=h ⟨k⟩
def Zv(h:Wz X->G:=by intro Qk;refine mS ?_;exact Qk.k)(k:X):G:=h ⟨k⟩
def ZA(h:Wz X->G:=by intro Qk;refine KR.one [] rfl rfl rfl ?_;exact Qk.k)(k:X):G:=h ⟨k⟩
def ZB(h:Wz X->G:=by intro Qk;refine CW.skip ?_;exact Qk.k)(k:X):G:=h ⟨k⟩
def ZC(h:Wz X->G:=by intro Qk;refine CW.bM 3 1 ?_;exact Qk.k)(k:X):G:=h ⟨k⟩
def ZG(h:Wz X->G:=by intro Qk;refine OW.pure rfl rfl rfl (PV.add rfl rfl rfl) ?_;exact Qk.k)(k:X):G:=h ⟨k⟩
def ZH(h:Wz X->G:=by intro Qk;refine OW.cut (i:=0) (h:=_) Ux Jx rfl rfl rfl rfl rfl rfl rfl K1 ?_;exact Qk.k)(k:X):G:=h ⟨k⟩
def ZJ(h:Wz X->G:=by intro Qk;refine OW.pure rfl rfl rfl (PV.move rfl rfl) ?_;exact Qk.k)(k:X):G:=h ⟨k⟩
def ZK(h:Wz X->G:=by intro Qk;refine OW.pure rfl rfl rfl (PV.neq rfl rfl rfl) ?_;exact Qk.k)(k:X):G:=h ⟨k⟩
def ZL(h:Wz X->G:=by intro Qk;(first|(refine OW.off rfl rfl rfl ?_)|(refine OW.pure rfl rfl rfl (PV.move rfl rfl) ?_));exact Qk.k)(k:X):G:=h ⟨k⟩
def ZM(h:Wz X->G:=by intro Qk;(first|(refine OW.off rfl rfl rfl ?_)|(refine OW.pure rfl rfl rfl (PV.neq rfl rfl rfl) ?_));exact Qk.k)(k:X):G:=h ⟨k⟩
def ZN(h:Wz X->G:=by intro Qk;(first|(refine OW.pure rfl rfl rfl (PV.yi rfl rfl rfl) ?_)|(refine OW.pure rfl rfl rfl (PV.yo rfl rfl rfl) ?_));exact Qk.k)(k:X):G:=h ⟨k⟩
def ZP(h:Wz X->G:=by intro Qk;(first|(refine OW.off rfl rfl rfl ?_)|(refine OW.pure rfl rfl rfl (PV.not rfl rfl) ?_));exact Qk.k)(k:X):G:=h ⟨k⟩
def ZQ(h:Wz X->G:=by intro Qk;refine CW.dV mixed [1] rfl ?_;exact Qk.k)(k:X):G:=h ⟨k⟩
def ZR(h:Wz X->G:=by intro Qk;refine E.AW.one 4 K0 rfl ?_;exact Qk.k)(k:X):G:=h ⟨k⟩
def ZS(h:Wz X->G:=by intro Qk;refine E.AW.one 5 K0 rfl ?_;exact Qk.k)(k:X):G:=h ⟨k⟩
def ZT(h:Wz X->G:=by intro Qk;refine E.AW.one 10 K0 rfl ?_;exact Qk.k)(k:X):G:=h ⟨k⟩
def ZU(h:Wz X->G:=by intro Qk;refine E.AW.one 11 K0 rfl ?_;exact Qk.k)(k:X):G:=h ⟨k⟩
def ZV(h:Wz X->G:=by intro Qk;refine CW.bM 5 1 ?_;exact Qk.k)(k:X):G:=h ⟨k⟩
def ZY(h:Wz X->G:=by intro Qk;refine CW.dV mixed [] rfl ?_;exact Qk.k)(k:X):G:=h ⟨k⟩
def ZZ(h:Wz X->G:=by intro Qk;refine E.AW.one 8 K0 rfl ?_;exact Qk.k)(k:X):G:=h ⟨k⟩
def Z10(h:Wz X->G:=by intro Qk;refine E.AW.one 2 K0 rfl ?_;exact Qk.k)(k:X):G:=h ⟨k⟩
def Z11(h:Wz X->G:=by intro Qk;refine KR.we [1] rfl (rv.cell Ix rfl (dU 0 rfl) rfl) rfl ?_;exact Qk.k)(k:X):G:=h ⟨k⟩
def Z12(h:Wz X->G:=by intro Qk;refine KR.kR [1] rfl (rv.cell Ix rfl (dU 0 rfl) rfl) rfl rfl ?_;exact Qk.k)(k:X):G:=h ⟨k⟩
def Z14(h:Wz X->G:=by intro Qk;refine E.AW.one 3 K0 rfl ?_;exact Qk.k)(k:X):G:=h ⟨k⟩
def Z15(h:Wz X->G:=by intro Qk;refine E.AW.one 6 K0 rfl ?_;exact Qk.k)(k:X):G:=h ⟨k⟩
def Z16(h:Wz X->G:=by intro Qk;refine OW.Cy (i:=0) (b:=0) Js rfl rfl rfl rfl rfl rfl K1 ?_;exact Qk.k)(k:X):G:=h ⟨k⟩
def Z19(h:Wz X->G:=by intro Qk;refine CW.dV mixed [2] rfl ?_;exact Qk.k)(k:X):G:=h ⟨k⟩
def Z1a(h:Wz X->G:=by intro Qk;refine E.AW.one 7 K0 rfl ?_;exact Qk.k)(k:X):G:=h ⟨k⟩
def Z1b(h:Wz X->G:=by intro Qk;refine CW.dV mixed [0,1] rfl ?_;exact Qk.k)(k:X):G:=h ⟨k⟩
def Z1c(h:Wz X->G:=by intro Qk;refine CW.dV mixed [0] rfl ?_;exact Qk.k)(k:X):G:=h ⟨k⟩
def Z1d(h:Wz X->G:=by intro Qk;refine E.AW.one 9 K0 rfl ?_;exact Qk.k)(k:X):G:=h ⟨k⟩
def Z1e(h:Wz X->G:=by intro Qk;refine KR.one [0,0] rfl rfl rfl ?_;exact Qk.k)(k:X):G:=h ⟨k⟩
def Z1f(h:Wz X->G:=by intro Qk;refine KR.we [1,2] rfl (rv.cell Ix rfl (dU 0 rfl) rfl) rfl ?_;exact Qk.k)(k:X):G:=h ⟨k⟩
def Z1g(h:Wz X->G:=by intro Qk;refine CW.sels [1,0,0,0] rfl ?_;exact Qk.k)(k:X):G:=h ⟨k⟩
def Z1h(h:Wz X->G:=by intro Qk;refine OW.pure rfl rfl rfl (PV.sub rfl rfl rfl) ?_;exact Qk.k)(k:X):G:=h ⟨k⟩
def Z1j(h:Wz X->G:=by intro Qk;refine CW.block ?_;exact Qk.k)(k:X):G:=h ⟨k⟩
def Z1k(h:Wz X->G:=by intro Qk;refine OW.pure rfl rfl rfl (PV.lss rfl rfl rfl) ?_;exact Qk.k)(k:X):G:=h ⟨k⟩
def Z1l(h:Wz X->G:=by intro Qk;refine OW.pure rfl rfl rfl (PV.GC rfl rfl rfl K1) ?_;exact Qk.k)(k:X):G:=h ⟨k⟩
def Z1m(h:Wz X->G:=by intro Qk;refine OW.JO (i:=0) Js rfl rfl rfl rfl rfl rfl K5 ?_;exact Qk.k)(k:X):G:=h ⟨k⟩
def Z1n(h:Wz X->G:=by intro Qk;refine CW.exit ?_;exact Qk.k)(k:X):G:=h ⟨k⟩
def Z1o(h:Wz X->G:=by intro Qk;refine rL ?_;exact Qk.k)(k:X):G:=h ⟨k⟩
def Z1p(h:Wz X->G:=by intro Qk;refine yu ?_;exact Qk.k)(k:X):G:=h ⟨k⟩
def Z1q(h:Wz X->G:=by intro Qk;refine Gd ?_;exact Qk.k)(k:X):G:=h ⟨k⟩
def Z1r(h:Wz X->G:=by intro Qk;(first|(refine E.AW.nil [0,0] rfl ?_)|(refine E.AW.nil [1,1] rfl ?_)|(refine E.AW.nil [2,2] rfl ?_)|(refine E.AW.nil [3,3] rfl ?_)|(refine E.AW.nil [4,4] rfl ?_)|(refine E.AW.nil [5,5] rfl ?_)|(refine E.AW.nil [6,6] rfl ?_)|(refine E.AW.nil [0,0] rfl ?_)|(refine E.AW.nil [0,0] rfl ?_));exact Qk.k)(k:X):G:=h ⟨k⟩
def Z1s(h:Wz X->G:=by intro Qk;refine E.AW.nil [] rfl ?_;exact Qk.k)(k:X):G:=h ⟨k⟩
def Z1t(h:Wz X->G:=by intro Qk;refine E.AW.done K0 ?_;exact Qk.k)(k:X):G:=h ⟨k⟩
def Z1u(h:Wz X->G:=by intro Qk;refine Vt ?_;exact Qk.k)(k:X):G:=h ⟨k⟩
def Z1v(h:Wz X->G:=by intro Qk;refine OW.jF (i:=0) Js rfl rfl rfl rfl rfl rfl K14 K5 K5 ?_;exact Qk.k)(k:X):G:=h ⟨k⟩
def Z1w(h:Wz X->G:=by intro Qk;refine OW.pure rfl rfl rfl (PV.KT Ux Jx rfl Ux rfl rfl rfl rfl K5 K1) ?_;exact Qk.k)(k:X):G:=h ⟨k⟩
def Z1x(h:Wz X->G:=by intro Qk;refine CW.dV mixed [0,0,0] rfl ?_;exact Qk.k)(k:X):G:=h ⟨k⟩
def Z1y(h:Wz X->G:=by intro Qk;refine E.AW.first 2 rfl K0 K0 K0 rfl rfl rfl (PV.move rfl rfl) ?_;exact Qk.k)(k:X):G:=h ⟨k⟩
def Z1z(h:Wz X->G:=by intro Qk;refine E.AW.first 9 rfl K0 K0 K0 rfl rfl rfl (PV.wT Ux Jx rfl rfl rfl (E.tn K1) K1) ?_;exact Qk.k)(k:X):G:=h ⟨k⟩
def Z1A(h:Wz X->G:=by intro Qk;refine E.AW.first 10 rfl K0 K0 K0 rfl rfl rfl (PV.pL (i:=0) Nx rfl rfl rfl K5) ?_;exact Qk.k)(k:X):G:=h ⟨k⟩
def Z1B(h:Wz X->G:=by intro Qk;refine E.AW.first 15 rfl K0 K0 K0 rfl rfl rfl (PV.wT Ux Jx rfl rfl rfl (E.tn K1) K1) ?_;exact Qk.k)(k:X):G:=h ⟨k⟩
def Z1C(h:Wz X->G:=by intro Qk;refine E.AW.first 16 rfl K0 K0 K0 rfl rfl rfl (PV.pL (i:=0) Nx rfl rfl rfl K5) ?_;exact Qk.k)(k:X):G:=h ⟨k⟩
def Z1D(h:Wz X->G:=by intro Qk;refine E.AW.first 20 rfl K0 K0 K0 rfl rfl rfl (PV.move rfl rfl) ?_;exact Qk.k)(k:X):G:=h ⟨k⟩
def Z1E(h:Wz X->G:=by intro Qk;(first|(refine E.AW.nil [0,0,0] rfl ?_)|(refine E.AW.nil [1,1,1] rfl ?_)|(refine E.AW.nil [2,2,2] rfl ?_)|(refine E.AW.nil [3,3,3] rfl ?_)|(refine E.AW.nil [4,4,4] rfl ?_)|(refine E.AW.nil [5,5,5] rfl ?_)|(refine E.AW.nil [6,6,6] rfl ?_)|(refine E.AW.nil [0,0,0] rfl ?_)|(refine E.AW.nil [0,0,0] rfl ?_));exact Qk.k)(k:X):G:=h ⟨k⟩
def Z1F(h:Wz X->G:=by intro Qk;refine E.AW.first 0 rfl K0 K0 K0 rfl rfl rfl (PV.move rfl rfl) ?_;exact Qk.k)(k:X):G:=h ⟨k⟩
def Z1G(h:Wz X->G:=by intro Qk;(first|(refine E.AW.nil [0] rfl ?_)|(refine E.AW.nil [1] rfl ?_)|(refine E.AW.nil [2] rfl ?_)|(refine E.AW.nil [3] rfl ?_)|(refine E.AW.nil [4] rfl ?_)|(refine E.AW.nil [5] rfl ?_)|(refine E.AW.nil [6] rfl ?_)|(refine E.AW.nil [0] rfl ?_)|(refine E.AW.nil [0] rfl ?_));exact Qk.k)(k:X):G:=h ⟨k⟩
def Z1H(h:Wz X->G:=by intro Qk;refine OW.pure rfl rfl rfl (PV.wT Ux Jx rfl rfl rfl (E.tn K1) K1) ?_;exact Qk.k)(k:X):G:=h ⟨k⟩
def Z1I(h:Wz X->G:=by intro Qk;refine CW.sels [1,0] rfl ?_;exact Qk.k)(k:X):G:=h ⟨k⟩
def Z1J(h:Wz X->G:=by intro Qk;refine OW.jF (i:=1) Js rfl rfl rfl rfl rfl rfl K14 K5 K5 ?_;exact Qk.k)(k:X):G:=h ⟨k⟩
def Z1K(h:Wz X->G:=by intro Qk;refine KR.kR [] rfl (rv.xg Ix rfl (dU 0 rfl) K5) rfl rfl ?_;exact Qk.k)(k:X):G:=h ⟨k⟩
def Z1L(h:Wz X->G:=by intro Qk;refine E.AW.one 12 K0 rfl ?_;exact Qk.k)(k:X):G:=h ⟨k⟩
def Z1M(h:Wz X->G:=by intro Qk;refine E.AW.jK 10 K0 rfl K0 ?_;exact Qk.k)(k:X):G:=h ⟨k⟩
def Z1N(h:Wz X->G:=by intro Qk;(first|refine E.AW.put 35 (v:=.int .u64 (IntKind.u64.wrap (8*len))) (.int .u64 (8*len)) rfl (aq (Value.int .u64) (by rw[IntKind.wrap_u64];omega)) ?_|skip);exact Qk.k)(k:X):G:=h ⟨k⟩
def Z1O(h:Wz X->G:=by intro Qk;refine E.AW.one 1 K0 rfl ?_;exact Qk.k)(k:X):G:=h ⟨k⟩
def Z1P(h:Wz X->G:=by intro Qk;refine CW.bM 135 3 ?_;exact Qk.k)(k:X):G:=h ⟨k⟩
def Z1Q(h:Wz X->G:=by intro Qk;refine OW.jF (i:=0) Js rfl rfl rfl rfl rfl rfl K18 K9 K9 ?_;exact Qk.k)(k:X):G:=h ⟨k⟩
def Z1R(h:Wz X->G:=by intro Qk;refine OW.pure rfl rfl rfl (PV.qQ (i:=0) Ix rfl rfl rfl K9) ?_;exact Qk.k)(k:X):G:=h ⟨k⟩
def Z1S(h:Wz X->G:=by intro Qk;(first|(refine OW.off rfl rfl rfl ?_)|(refine OW.pure rfl rfl rfl (PV.leq rfl rfl rfl) ?_));exact Qk.k)(k:X):G:=h ⟨k⟩
def Z1T(h:Wz X->G:=by intro Qk;(first|(refine OW.off rfl rfl rfl ?_)|(refine OW.pure rfl rfl rfl (PV.gtr rfl rfl rfl) ?_));exact Qk.k)(k:X):G:=h ⟨k⟩
def Z1U(h:Wz X->G:=by intro Qk;(first|(refine OW.off rfl rfl rfl ?_)|(first|(refine OW.pure rfl rfl rfl (PV.yi rfl rfl rfl) ?_)|(refine OW.pure rfl rfl rfl (PV.yo rfl rfl rfl) ?_)));exact Qk.k)(k:X):G:=h ⟨k⟩
def Z1V(h:Wz X->G:=by intro Qk;(first|(refine OW.off rfl rfl rfl ?_)|(refine OW.pure rfl rfl rfl (PV.fieldAddr Ax rfl rfl) ?_));exact Qk.k)(k:X):G:=h ⟨k⟩
def Z1W(h:Wz X->G:=by intro Qk;(first|(refine OW.off rfl rfl rfl ?_)|(refine OW.pure rfl rfl rfl (PV.load (i:=1) Nx rfl rfl rfl rfl) ?_));exact Qk.k)(k:X):G:=h ⟨k⟩
def Z1X(h:Wz X->G:=by intro Qk;(first|(refine OW.off rfl rfl rfl ?_)|(refine OW.pure rfl rfl rfl (PV.eql rfl rfl rfl) ?_));exact Qk.k)(k:X):G:=h ⟨k⟩
def Z1Y(Q0:p0)(Q1:p1)(h:p0->p1->Wz X->G:=by intro Q0 Q1 Qk;refine xw (vs:=[.func (.func fb) #[] aE]) (H:=[p]) Q0 Q1 rfl rfl (HA.au hS hb) ?_;exact Qk.k)(k:X):G:=h Q0 Q1 ⟨k⟩
def Z1Z(h:Wz X->G:=by intro Qk;refine OW.defer rfl rfl rfl rfl rfl rfl rfl ?_;exact Qk.k)(k:X):G:=h ⟨k⟩
def Z20(h:Wz X->G:=by intro Qk;refine⟨_,rfl,rfl,?_⟩;exact Qk.k)(k:X):G:=h ⟨k⟩
def Z21(Q0:p0)(h:p0->Wz X->G:=by intro Q0 Qk;refine⟨_,_,TI ha hA2 Q0 (rv.cell Ix rfl (dU 0 rfl) rfl) (rv.fW Nx rfl (dU 1 rfl) rfl),.inr ⟨e,rfl,hx⟩,?_⟩;exact Qk.k)(k:X):G:=h Q0 ⟨k⟩
def Z22(Q0:p0)(h:p0->Wz X->G:=by intro Q0 Qk;refine⟨_,_,TI ha hA2 Q0 (rv.cell Ix rfl (dU 1 rfl) rfl) (rv.fW Nx rfl (dU 0 rfl) rfl),.inl ⟨b,rfl,hx⟩,?_⟩;exact Qk.k)(k:X):G:=h Q0 ⟨k⟩
def Z23(h:Wz X->G:=by intro Qk;refine CW.dV mixed [0,0] rfl ?_;exact Qk.k)(k:X):G:=h ⟨k⟩
def Z24(h:Wz X->G:=by intro Qk;refine CW.open 0 rfl ?_;exact Qk.k)(k:X):G:=h ⟨k⟩
def Z25(h:Wz X->G:=by intro Qk;refine E.AW.conv (ec [0,0,0] 2 rfl rfl) ?_;exact Qk.k)(k:X):G:=h ⟨k⟩
def Z26(h:Wz X->G:=by intro Qk;(first|(refine OW.off rfl rfl rfl ?_)|(refine OW.pure rfl rfl rfl (PV.nk (oh hT) Nx rfl rfl rfl) ?_));exact Qk.k)(k:X):G:=h ⟨k⟩
def Z27(h:Wz X->G:=by intro Qk;(first|(refine OW.off rfl rfl rfl ?_)|(refine OW.pure rfl rfl rfl (PV.len Ux rfl rfl) ?_));exact Qk.k)(k:X):G:=h ⟨k⟩
def Z28(h:Wz X->G:=by intro Qk;(first|(refine OW.off rfl rfl rfl ?_)|(refine OW.pure rfl rfl rfl (PV.lss rfl rfl rfl) ?_));exact Qk.k)(k:X):G:=h ⟨k⟩
def Z29(h:Wz X->G:=by intro Qk;(first|(refine OW.off rfl rfl rfl ?_)|(refine OW.pure rfl rfl rfl (PV.nk (oh hD) Nx rfl rfl rfl) ?_));exact Qk.k)(k:X):G:=h ⟨k⟩
def Z2a(h:Wz X->G:=by intro Qk;refine E.AW.one 18 K0 rfl ?_;exact Qk.k)(k:X):G:=h ⟨k⟩
def Z2b(h:Wz X->G:=by intro Qk;refine KR.wa [2] rfl (rv.cell Ix rfl (dU 0 rfl) rfl) rfl rfl rfl ?_;exact Qk.k)(k:X):G:=h ⟨k⟩
def Z2c(h:Wz X->G:=by intro Qk;refine⟨_,[(4,_)],[0],[_],?_,Kc,rfl,d+1,rfl,rfl,(by first|(have hm2:0<=Fl.mv a b p d:=hm;rw[vq hm2,hst])|(have hm2:Fl.mv a b p d<0:=hm;rw[HO hm2])),by omega⟩;exact Qk.k)(k:X):G:=h ⟨k⟩
def Z2d(h:Wz X->G:=by intro Qk;refine E.AW.conv (pd (q:=q++[(p,k)]) 0 0 rfl rfl K7 (TQ q p k).symm) ?_;exact Qk.k)(k:X):G:=h ⟨k⟩
def Z2e(h:Wz X->G:=by intro Qk;refine OW.pure rfl rfl rfl (PV.aY (Rs (yI hr)) Ux Jx rfl rfl rfl rfl K10 K1) ?_;exact Qk.k)(k:X):G:=h ⟨k⟩
def Z2f(h:Wz X->G:=by intro Qk;refine OW.pure rfl rfl rfl (PV.nQ (Rs (yI hr)) Nx rfl rfl K1) ?_;exact Qk.k)(k:X):G:=h ⟨k⟩
def Z2g(h:Wz X->G:=by intro Qk;refine OW.pure rfl rfl rfl (PV.aY (BG (aaH (i:=1) rfl) K1) Ux Jx rfl rfl rfl rfl K10 K1) ?_;exact Qk.k)(k:X):G:=h ⟨k⟩
def Z2h(h:Wz X->G:=by intro Qk;refine OW.pure rfl rfl rfl (PV.tM (BG (aaH (i:=1) rfl) K1) Nx rfl rfl K1) ?_;exact Qk.k)(k:X):G:=h ⟨k⟩
def Z2i(h:Wz X->G:=by intro Qk;refine OW.pure rfl rfl rfl (PV.aY (p_a (yI hr)) Ux Jx rfl rfl rfl rfl K10 K1) ?_;exact Qk.k)(k:X):G:=h ⟨k⟩
def Z2j(h:Wz X->G:=by intro Qk;refine OW.pure rfl rfl rfl (PV.nQ (p_a (yI hr)) Nx rfl rfl K1) ?_;exact Qk.k)(k:X):G:=h ⟨k⟩
def Z2k(h:Wz X->G:=by intro Qk;refine OW.pure rfl rfl rfl (PV.aY (abj (yI hr) K1) Ux Jx rfl rfl rfl rfl K10 K1) ?_;exact Qk.k)(k:X):G:=h ⟨k⟩
def Z2l(h:Wz X->G:=by intro Qk;refine OW.pure rfl rfl rfl (PV.ni (abj (yI hr) K1) Nx rfl rfl K1) ?_;exact Qk.k)(k:X):G:=h ⟨k⟩
def Z2m(h:Wz X->G:=by intro Qk;refine(KR.zero [0,0] rfl rfl ?_).1;exact Qk.k)(k:X):G:=h ⟨k⟩
def Z2n(h:Wz X->G:=by intro Qk;refine OW.pure rfl rfl rfl (PV.aY (adf (yI hr) K1) Ux Jx rfl rfl rfl rfl K10 K1) ?_;exact Qk.k)(k:X):G:=h ⟨k⟩
def Z2o(h:Wz X->G:=by intro Qk;refine OW.pure rfl rfl rfl (PV.Rx (adf (yI hr) K1) Nx rfl rfl K1) ?_;exact Qk.k)(k:X):G:=h ⟨k⟩
def Z2p(h:Wz X->G:=by intro Qk;refine E.AW.one 14 K0 rfl ?_;exact Qk.k)(k:X):G:=h ⟨k⟩
def Z2q(h:Wz X->G:=by intro Qk;refine OW.pure rfl rfl rfl (PV.fieldAddr Ax rfl rfl) ?_;exact Qk.k)(k:X):G:=h ⟨k⟩
def Z2r(h:Wz X->G:=by intro Qk;refine OW.pure rfl rfl rfl (PV.load (i:=1) Nx rfl rfl rfl rfl) ?_;exact Qk.k)(k:X):G:=h ⟨k⟩
def Z2s(h:Wz X->G:=by intro Qk;refine OW.pure rfl rfl rfl (PV.len Ux rfl rfl) ?_;exact Qk.k)(k:X):G:=h ⟨k⟩
def Z2t(h:Wz X->G:=by intro Qk;refine E.AW.first 0 rfl K0 K0 K0 rfl rfl rfl (PV.fieldAddr Ax rfl rfl) ?_;exact Qk.k)(k:X):G:=h ⟨k⟩
def Z2u(h:Wz X->G:=by intro Qk;refine E.AW.first 1 rfl K0 K0 K0 rfl rfl rfl (PV.load (i:=0) Nx rfl rfl rfl rfl) ?_;exact Qk.k)(k:X):G:=h ⟨k⟩
def Z2v(h:Wz X->G:=by intro Qk;refine E.AW.first 5 rfl K0 K0 K0 rfl rfl rfl (PV.move rfl rfl) ?_;exact Qk.k)(k:X):G:=h ⟨k⟩
def Z2w(h:Wz X->G:=by intro Qk;(first|(refine E.AW.nil [1] rfl ?_)|(refine E.AW.nil [2] rfl ?_)|(refine E.AW.nil [3] rfl ?_)|(refine E.AW.nil [4] rfl ?_)|(refine E.AW.nil [5] rfl ?_)|(refine E.AW.nil [6] rfl ?_)|(refine E.AW.nil [7] rfl ?_)|(refine E.AW.nil [0] rfl ?_)|(refine E.AW.nil [0] rfl ?_));exact Qk.k)(k:X):G:=h ⟨k⟩
def Z2x(h:Wz X->G:=by intro Qk;refine OW.store (i:=0) Js rfl rfl rfl rfl rfl rfl rfl rfl rfl ?_;exact Qk.k)(k:X):G:=h ⟨k⟩
def Z2y(h:Wz X->G:=by intro Qk;refine OW.store (i:=1) Js rfl rfl rfl rfl rfl rfl rfl rfl rfl ?_;exact Qk.k)(k:X):G:=h ⟨k⟩
def Z2z(h:Wz X->G:=by intro Qk;refine OW.store (i:=2) Js rfl rfl rfl rfl rfl rfl rfl rfl rfl ?_;exact Qk.k)(k:X):G:=h ⟨k⟩
def Z2A(h:Wz X->G:=by intro Qk;refine OW.store (i:=3) Js rfl rfl rfl rfl rfl rfl rfl rfl rfl ?_;exact Qk.k)(k:X):G:=h ⟨k⟩
def Z2B(h:Wz X->G:=by intro Qk;refine OW.mi (i:=0) Js rfl rfl rfl rfl rfl rfl K1 ?_;exact Qk.k)(k:X):G:=h ⟨k⟩
def Z2C(h:Wz X->G:=by intro Qk;refine E.AW.first 4 rfl K0 K0 K0 rfl rfl rfl (PV.assign rfl rfl) ?_;exact Qk.k)(k:X):G:=h ⟨k⟩
def Z2D(h:Wz X->G:=by intro Qk;refine E.AW.first 5 rfl K0 K0 K0 rfl rfl rfl (PV.assign rfl rfl) ?_;exact Qk.k)(k:X):G:=h ⟨k⟩
def Z2E(h:Wz X->G:=by intro Qk;refine OW.pure rfl rfl rfl (PV.jD (i:=11) Ix rfl rfl rfl rfl) ?_;exact Qk.k)(k:X):G:=h ⟨k⟩
def Z2F(h:Wz X->G:=by intro Qk;refine E.AW.first 4 rfl K0 K0 K0 rfl rfl rfl (PV.move rfl rfl) ?_;exact Qk.k)(k:X):G:=h ⟨k⟩
def Z2G(h:Wz X->G:=by intro Qk;refine E.AW.first 1 rfl K0 K0 K0 rfl rfl rfl (PV.nilCheck rfl rfl) ?_;exact Qk.k)(k:X):G:=h ⟨k⟩
def Z2H(h:Wz X->G:=by intro Qk;refine E.AW.first 2 rfl K0 K0 K0 rfl rfl rfl (PV.fieldAddr Ax rfl rfl) ?_;exact Qk.k)(k:X):G:=h ⟨k⟩
def Z2I(h:Wz X->G:=by intro Qk;refine E.AW.first 5 rfl K0 K0 K0 rfl rfl rfl (PV.load (i:=0) Nx rfl rfl rfl rfl) ?_;exact Qk.k)(k:X):G:=h ⟨k⟩
def Z2J(h:Wz X->G:=by intro Qk;refine E.AW.first 0 rfl K0 K0 K0 rfl rfl rfl (PV.load (i:=0) Nx rfl rfl rfl rfl) ?_;exact Qk.k)(k:X):G:=h ⟨k⟩
def Z2K(h:Wz X->G:=by intro Qk;(first|(refine E.AW.nil [2,2,2] rfl ?_)|(refine E.AW.nil [3,3,3] rfl ?_)|(refine E.AW.nil [4,4,4] rfl ?_)|(refine E.AW.nil [5,5,5] rfl ?_)|(refine E.AW.nil [6,6,6] rfl ?_)|(refine E.AW.nil [7,7,7] rfl ?_)|(refine E.AW.nil [8,8,8] rfl ?_)|(refine E.AW.nil [1,1,1] rfl ?_)|(refine E.AW.nil [0,0,0] rfl ?_));exact Qk.k)(k:X):G:=h ⟨k⟩
def Z2L(h:Wz X->G:=by intro Qk;refine E.AW.put 126 (.slice AR pre.length uR) rfl (by simp only[di]) ?_;exact Qk.k)(k:X):G:=h ⟨k⟩
def Z2M(h:Wz X->G:=by intro Qk;refine E.AW.first 15 rfl K0 K0 K0 rfl rfl rfl (PV.va Ux Jx rfl rfl rfl rfl K1) ?_;exact Qk.k)(k:X):G:=h ⟨k⟩
def Z2N(h:Wz X->G:=by intro Qk;refine E.AW.conv (Jv (post:=pre++[x]) [1,1,1,1,1,0] K1 rfl rfl rfl) ?_;exact Qk.k)(k:X):G:=h ⟨k⟩
def Z2O(h:Wz X->G:=by intro Qk;refine OW.pure rfl rfl rfl (PV.nilCheck rfl rfl) ?_;exact Qk.k)(k:X):G:=h ⟨k⟩
def Z2P(h:Wz X->G:=by intro Qk;refine OW.pure rfl rfl rfl (PV.extract rfl rfl rfl) ?_;exact Qk.k)(k:X):G:=h ⟨k⟩
def Z2Q(h:Wz X->G:=by intro Qk;refine OW.pure rfl rfl rfl (PV.load (i:=2) Nx rfl rfl rfl rfl) ?_;exact Qk.k)(k:X):G:=h ⟨k⟩
def Z2R(h:Wz X->G:=by intro Qk;refine OW.pure rfl rfl rfl (PV.va Ux Jx rfl rfl rfl rfl K1) ?_;exact Qk.k)(k:X):G:=h ⟨k⟩
def Z2S(h:Wz X->G:=by intro Qk;(first|(refine OW.off rfl rfl rfl ?_)|(refine OW.pure rfl rfl rfl (PV.va Ux Jx rfl rfl rfl rfl ?_) ?_;(focus (omega))));exact Qk.k)(k:X):G:=h ⟨k⟩
def Z2T(h:Wz X->G:=by intro Qk;refine E.AW.first 3 rfl K0 K0 K0 rfl rfl rfl (PV.fieldAddr Ax rfl rfl) ?_;exact Qk.k)(k:X):G:=h ⟨k⟩
def Z2U(h:Wz X->G:=by intro Qk;(first|(refine E.AW.nil [13] rfl ?_)|(refine E.AW.nil [14] rfl ?_)|(refine E.AW.nil [15] rfl ?_)|(refine E.AW.nil [16] rfl ?_)|(refine E.AW.nil [17] rfl ?_)|(refine E.AW.nil [18] rfl ?_)|(refine E.AW.nil [19] rfl ?_)|(refine E.AW.nil [12] rfl ?_)|(refine E.AW.nil [11] rfl ?_));exact Qk.k)(k:X):G:=h ⟨k⟩
def Z2V(h:Wz X->G:=by intro Qk;refine E.AW.first 8 rfl K0 K0 K0 rfl rfl rfl (PV.nilCheck rfl rfl) ?_;exact Qk.k)(k:X):G:=h ⟨k⟩
def Z2W(h:Wz X->G:=by intro Qk;refine E.AW.first 9 rfl K0 K0 K0 rfl rfl rfl (PV.fieldAddr Ax rfl rfl) ?_;exact Qk.k)(k:X):G:=h ⟨k⟩
def Z2X(h:Wz X->G:=by intro Qk;refine OW.store (i:=4) Js rfl rfl rfl rfl rfl rfl rfl rfl rfl ?_;exact Qk.k)(k:X):G:=h ⟨k⟩
def Z2Y(h:Wz X->G:=by intro Qk;refine E.AW.conv (Qs 1 rfl rfl) ?_;exact Qk.k)(k:X):G:=h ⟨k⟩
def Z2Z(h:Wz X->G:=by intro Qk;(first|(refine E.AW.nil [12] rfl ?_)|(refine E.AW.nil [13] rfl ?_)|(refine E.AW.nil [14] rfl ?_)|(refine E.AW.nil [15] rfl ?_)|(refine E.AW.nil [16] rfl ?_)|(refine E.AW.nil [17] rfl ?_)|(refine E.AW.nil [18] rfl ?_)|(refine E.AW.nil [11] rfl ?_)|(refine E.AW.nil [10] rfl ?_));exact Qk.k)(k:X):G:=h ⟨k⟩
def Z30(h:Wz X->G:=by intro Qk;refine OW.pure rfl rfl rfl (PV.aY (BG (KZ (i:=0) rfl) K1) Ux Jx rfl rfl rfl (E.tn K1) K10 K1) ?_;exact Qk.k)(k:X):G:=h ⟨k⟩
def Z31(h:Wz X->G:=by intro Qk;refine OW.pure rfl rfl rfl (PV.tM (BG (KZ (i:=0) rfl) K1) Nx rfl rfl K1) ?_;exact Qk.k)(k:X):G:=h ⟨k⟩
def Z32(h:Wz X->G:=by intro Qk;(first|(refine QW.off rfl rfl rfl ?_)|(refine QW.pure rfl rfl rfl (PV.eql rfl rfl rfl) ?_));exact Qk.k)(k:X):G:=h ⟨k⟩
def Z33(h:Wz X->G:=by intro Qk;refine QW.put 12 (.bool true) rfl (aq Value.bool K19) ?_;exact Qk.k)(k:X):G:=h ⟨k⟩
def Z34(h:Wz X->G:=by intro Qk;refine QW.put 9 (.int .i64 (work s.e (Cr.at_ s.rs k).st)) rfl (aq (Value.int .i64) (hok.wk K20)) ?_;exact Qk.k)(k:X):G:=h ⟨k⟩
def Z35(h:Wz X->G:=by intro Qk;refine OW.put 12 (.bool true) rfl (aq Value.bool K19) ?_;exact Qk.k)(k:X):G:=h ⟨k⟩
def Z36(h:Wz X->G:=by intro Qk;refine OW.put 9 (.int .i64 (work s.e (Cr.at_ s.rs k).st)) rfl (aq (Value.int .i64) (hok.wk K20)) ?_;exact Qk.k)(k:X):G:=h ⟨k⟩
def Z37(h:Wz X->G:=by intro Qk;refine OW.pure rfl rfl rfl (PV.eql rfl rfl rfl) ?_;exact Qk.k)(k:X):G:=h ⟨k⟩
def Z38(h:Wz X->G:=by intro Qk;(first|(refine OW.off rfl rfl rfl ?_)|(refine OW.pure rfl rfl rfl (PV.jh Hd.fx (oh hh) rfl rfl ?_) ?_;(focus (omega))));exact Qk.k)(k:X):G:=h ⟨k⟩
def Z39(h:Wz X->G:=by intro Qk;(first|(refine OW.off rfl rfl rfl ?_)|(refine OW.pure rfl rfl rfl (PV.eU Hd.fx (oh hh) Gx rfl rfl ?_) ?_;(focus (omega))));exact Qk.k)(k:X):G:=h ⟨k⟩
def Z3a(h:Wz X->G:=by intro Qk;(first|(refine OW.off rfl rfl rfl ?_)|(refine OW.pure rfl rfl rfl (PV.G6 (oh hh) Nx rfl rfl ?_ rfl) ?_;(focus (omega))));exact Qk.k)(k:X):G:=h ⟨k⟩
def Z3b(h:Wz X->G:=by intro Qk;refine QW.pure rfl rfl rfl (PV.jh Hd.fx (oh hh) rfl rfl K1) ?_;exact Qk.k)(k:X):G:=h ⟨k⟩
def Z3c(h:Wz X->G:=by intro Qk;refine QW.pure rfl rfl rfl (PV.eU Hd.fx (oh hh) Gx rfl rfl K1) ?_;exact Qk.k)(k:X):G:=h ⟨k⟩
def Z3d(h:Wz X->G:=by intro Qk;refine QW.pure rfl rfl rfl (PV.G6 (oh hh) Nx rfl rfl K1 rfl) ?_;exact Qk.k)(k:X):G:=h ⟨k⟩
def Z3e(h:Wz X->G:=by intro Qk;refine QW.pure rfl rfl rfl (PV.fieldAddr Ax rfl rfl) ?_;exact Qk.k)(k:X):G:=h ⟨k⟩
def Z3f(h:Wz X->G:=by intro Qk;refine QW.pure rfl rfl rfl (PV.nk (oh hkc) Nx rfl rfl rfl) ?_;exact Qk.k)(k:X):G:=h ⟨k⟩
def Z3g(h:Wz X->G:=by intro Qk;(first|(refine QW.off rfl rfl rfl ?_)|(refine QW.pure rfl rfl rfl (PV.jh Hd.fx (oh hh) rfl rfl ?_) ?_;(focus (omega))));exact Qk.k)(k:X):G:=h ⟨k⟩
def Z3h(h:Wz X->G:=by intro Qk;(first|(refine QW.off rfl rfl rfl ?_)|(refine QW.pure rfl rfl rfl (PV.eU Hd.fx (oh hh) Gx rfl rfl ?_) ?_;(focus (omega))));exact Qk.k)(k:X):G:=h ⟨k⟩
def Z3i(h:Wz X->G:=by intro Qk;(first|(refine QW.off rfl rfl rfl ?_)|(refine QW.pure rfl rfl rfl (PV.G6 (oh hh) Nx rfl rfl ?_ rfl) ?_;(focus (omega))));exact Qk.k)(k:X):G:=h ⟨k⟩
def Z3j(h:Wz X->G:=by intro Qk;refine OW.pure rfl rfl rfl (PV.vx (i:=1) rX Jx rfl rfl rfl rfl K30) ?_;exact Qk.k)(k:X):G:=h ⟨k⟩
def Z3k(h:Wz X->G:=by intro Qk;refine OW.fk s 0 0 0 0 rfl rfl rfl rfl rfl rfl rfl ?_;exact Qk.k)(k:X):G:=h ⟨k⟩
def Z3l(h:Wz X->G:=by intro Qk;refine CW.fk {s with rs:=Cr.upto cA s.rs (k+1)} 1 0 0 0 rfl rfl rfl rfl K44 K45 (aq (E.fl Hd.cs) (BU K1 hf)) ?_;exact Qk.k)(k:X):G:=h ⟨k⟩
def Z3m(h:Wz X->G:=by intro Qk;refine⟨_,[(9,_)],[0],_,?_,Kc,rfl,k+1,rfl,rfl,rfl,by omega⟩;exact Qk.k)(k:X):G:=h ⟨k⟩
def Z3n(h:Wz X->G:=by intro Qk;refine CW.fk {s with rs:=Cr.upto (bE s.e) s.rs (k+1)} 1 0 0 0 rfl rfl rfl rfl K44 K45 (aq (E.fl Hd.cs) (BU K1 hf)) ?_;exact Qk.k)(k:X):G:=h ⟨k⟩
def Z3o(h:Wz X->G:=by intro Qk;refine⟨_,[(12,_)],[0],_,?_,Kc,rfl,k+1,b9,rfl,rfl,rfl,by omega,hn9⟩;exact Qk.k)(k:X):G:=h ⟨k⟩
def Z3p(h:Wz X->G:=by intro Qk;refine OW.ma (i:=3) Js rfl rfl rfl rfl rfl rfl rfl (oM _) rfl rfl K1 ?_;exact Qk.k)(k:X):G:=h ⟨k⟩
def Z3q(h:Wz X->G:=by intro Qk;refine⟨_,[(9,_)],[0],_,?_,Kc,rfl,k+1,b9,A8,c8,rfl,rfl,rfl,by omega,hn9⟩;exact Qk.k)(k:X):G:=h ⟨k⟩
def Z3r(h:Wz X->G:=by intro Qk;refine CW.fk s 0 0 0 0 rfl rfl rfl rfl rfl rfl rfl ?_;exact Qk.k)(k:X):G:=h ⟨k⟩
def Z3s(h:Wz X->G:=by intro Qk;refine OW.pure rfl rfl rfl (PV.eU Hd.fx (iH (i:=1) rfl) Gx rfl rfl K1) ?_;exact Qk.k)(k:X):G:=h ⟨k⟩
def Z3t(h:Wz X->G:=by intro Qk;refine CW.dV mixed [1,1] rfl ?_;exact Qk.k)(k:X):G:=h ⟨k⟩
def Z3u(h:Wz X->G:=by intro Qk;refine OW.cut (i:=0) (h:=3) Ux Jx rfl rfl rfl rfl rfl rfl rfl K1 ?_;exact Qk.k)(k:X):G:=h ⟨k⟩
def Z3v(h:Wz X->G:=by intro Qk;refine CW.gT [1,1,0,2] 2 rfl rfl (Cw.mk s9.rs AR cR s9.b s9.mv).mem K48 ?_;exact Qk.k)(k:X):G:=h ⟨k⟩
def Z3x(h:Wz X->G:=by intro Qk;refine CW.bO 1 (HP.row 345 7 AD y.rs.length cD (E.fl Hd.cs (fZ y.rs))) rfl rfl ?_;exact Qk.k)(k:X):G:=h ⟨k⟩
def Z3z(h:Wz X->G:=by intro Qk;refine OW.gT [1,3,0] 2 rfl rfl (Cw.mk y.rs AC cC b3 y.mv).mem K63 ?_;exact Qk.k)(k:X):G:=h ⟨k⟩
def Z3B(h:Wz X->G:=by intro Qk;refine OW.aaN (i:=0) rfl rfl rfl rfl rfl rfl ?_;exact Qk.k)(k:X):G:=h ⟨k⟩
def Z3C(h:Wz X->G:=by intro Qk;refine OW.jF (i:=2) Js rfl rfl rfl rfl rfl rfl K18 K9 K9 ?_;exact Qk.k)(k:X):G:=h ⟨k⟩
def Z3D(h:Wz X->G:=by intro Qk;refine KR.wa [1] rfl rfl (rv.xg Ix rfl (dU 0 rfl) K9) rfl rfl ?_;exact Qk.k)(k:X):G:=h ⟨k⟩
def Z3F(h:Wz X->G:=by intro Qk;refine CW.wg ?_;exact Qk.k)(k:X):G:=h ⟨k⟩
def Z3G(h:Wz X->G:=by intro Qk;refine KR.three [1,1,0] rfl rfl rfl rfl rfl ?_;exact Qk.k)(k:X):G:=h ⟨k⟩
def Z3I(h:Wz X->G:=by intro Qk;refine CW.bM 138 35 ?_;exact Qk.k)(k:X):G:=h ⟨k⟩
def Z3J(h:Wz X->G:=by intro Qk;(first|(refine OW.off rfl rfl rfl ?_)|(refine OW.pure rfl rfl rfl (PV.load (i:=0) Nx rfl rfl rfl rfl) ?_));exact Qk.k)(k:X):G:=h ⟨k⟩
def Z3K(h:Wz X->G:=by intro Qk;refine CW.bO 0 (HP.aw BL 54 (xv (kf x.g.rs))) rfl (by first|(rw[last_pos (by omega)];rfl)|(rw[last_zero (by omega)];rfl)) ?_;exact Qk.k)(k:X):G:=h ⟨k⟩
def Z3L(h:Wz X->G:=by intro Qk;refine OW.pure rfl rfl rfl (PV.jD (i:=1) Ix rfl rfl rfl rfl) ?_;exact Qk.k)(k:X):G:=h ⟨k⟩
def Z3M(h:Wz X->G:=by intro Qk;refine OW.pure rfl rfl rfl (PV.jD (i:=0) Ix rfl rfl rfl rfl) ?_;exact Qk.k)(k:X):G:=h ⟨k⟩
def Z3N(Q0:p0)(h:p0->Wz X->G:=by intro Q0 Qk;refine OW.pure rfl rfl rfl (PV.yD (p:=x.g.lk=(kf x.g.rs)) Q0 rfl rfl rfl (aaE _).choose_spec (aaE _).choose_spec (Sk hf.lk hll)) ?_;exact Qk.k)(k:X):G:=h Q0 ⟨k⟩
def Z3O(h:Wz X->G:=by intro Qk;refine⟨_,[(13,_)],[],_,?_,Kc,rfl,k+1,rfl,rfl,rfl,by omega,Cf.upto hI K8⟩;exact Qk.k)(k:X):G:=h ⟨k⟩
def Z3P(h:Wz X->G:=by intro Qk;(first|(refine E.AW.xE 18 rfl K0 K0 K0 rfl rfl rfl ?_)|(refine E.AW.first 18 rfl K0 K0 K0 rfl rfl rfl (PV.move rfl rfl) ?_));exact Qk.k)(k:X):G:=h ⟨k⟩
def Z3R(h:Wz X->G:=by intro Qk;refine KR.kR [3,1] rfl (rv.cell Ix rfl (dU 0 rfl) rfl) rfl rfl ?_;exact Qk.k)(k:X):G:=h ⟨k⟩
def Z3T(h:Wz X->G:=by intro Qk;(first|(refine OW.kz (dh [3,6,0,0,2,2] 2 rfl rfl (Si.mk zf z.ws z.AO z.cO z.os).mem (Si.Qb z zf)) ?_;refine OW.kz (ey (Si.mk zf z.ws z.AO z.cO z.os) [2,2,2,0,0] rfl (Si.Gy hzq hta hz2) hzok) ?_)|refine OW.kz (ey z [4,4,4,4,0] rfl (Si.oW hzq htc hta) hzok) ?_);exact Qk.k)(k:X):G:=h ⟨k⟩
def Z3U(h:Wz X->G:=by intro Qk;refine OW.kz (qb (Rw.tz (r:={Gw.Rp.z with od:=if(submW (Cr.ev X.g.q t) s.f.tk (ai s.f t.toNat) q.pick q.drop).2=0 then((submW (Cr.ev X.g.q t) s.f.tk (ai s.f t.toNat) q.pick q.drop).1.b.os.length:Int) else 0}) rfl rfl)) ?_;exact Qk.k)(k:X):G:=h ⟨k⟩
def Z3V(h:Wz X->G:=by intro Qk;refine KR.kR [1,0] rfl (rv.cell Ix rfl (dU 2 rfl) rfl) rfl rfl ?_;exact Qk.k)(k:X):G:=h ⟨k⟩
def Z3X(h:Wz X->G:=by intro Qk;refine OW.kz (qb (Rw.tz (r:=Gw.Rp.z) rfl rfl)) ?_;exact Qk.k)(k:X):G:=h ⟨k⟩
def Z3Y(h:Wz X->G:=by intro Qk;refine OW.call Mx rfl rfl rfl rfl rfl rfl _ (fun w hw=>Wd (eY X.g t) (bm z.f t.toNat).b q.num w (hw.oP (hgr.tm hT)) (Cw.rb K67) (by rw[jz];exact hzV.bk)) ?_;rintro _ _ ⟨rfl,rfl⟩;exact Qk.k)(k:X):G:=h ⟨k⟩
def Z3Z(h:Wz X->G:=by intro Qk;refine OW.kz (ey z [2,2,2,2,0,0] rfl (Si.oW hzq htc hta) hzok) ?_;exact Qk.k)(k:X):G:=h ⟨k⟩
def Z40(h:Wz X->G:=by intro Qk;refine KR.kR [0,0] rfl (rv.cell Ix rfl (dU 2 rfl) rfl) rfl rfl ?_;exact Qk.k)(k:X):G:=h ⟨k⟩
def Z43(h:Wz X->G:=by intro Qk;(first|(refine OW.kz (dh [2,5,0,2,2] 2 rfl rfl (Si.mk zf z.ws z.AO z.cO z.os).mem (Si.Qb z zf)) ?_;refine OW.kz (ey (s:=(Gw.step Wi.ops X.g.q X.key s x.x)) (Si.mk zf z.ws z.AO z.cO z.os) [1,1,1,0] rfl (by rw[qR hkd hpr];exact Si.Gy hzq hta hz2) hzok) ?_)|refine OW.kz (ey (s:=(Gw.step Wi.ops X.g.q X.key s x.x)) z [3,3,3,3] rfl (by rw[PC hI hkd (by rw[<-hzc];assumption)];exact hzq) hzok) ?_);exact Qk.k)(k:X):G:=h ⟨k⟩
def Z44(h:Wz X->G:=by intro Qk;refine OW.kz (ey (s:=(Gw.step Wi.ops X.g.q X.key s x.x)) z [1,1,1,1] rfl (by rw[xR (by omega) (by assumption)];exact hzq) hzok) ?_;exact Qk.k)(k:X):G:=h ⟨k⟩
def Z46(h:Wz X->G:=by intro Qk;refine E.AW.first 21 rfl K0 K0 K0 rfl rfl rfl (PV.extract rfl rfl rfl) ?_;exact Qk.k)(k:X):G:=h ⟨k⟩
def Z47(h:Wz X->G:=by intro Qk;refine E.AW.first 22 rfl K0 K0 K0 rfl rfl rfl (PV.extract rfl rfl rfl) ?_;exact Qk.k)(k:X):G:=h ⟨k⟩
def Z48(h:Wz X->G:=by intro Qk;refine E.AW.first 23 rfl K0 K0 K0 rfl rfl rfl (PV.extract rfl rfl rfl) ?_;exact Qk.k)(k:X):G:=h ⟨k⟩
def Z49(h:Wz X->G:=by intro Qk;refine E.AW.put 47 (.agg (bX (cv z x.x.tn.toNat).a.ring X.key x.x.tn x.x.role x.x.aG z.f.tk).2.1.cw.toArray) rfl (by unfold Gw.Tk.v;rw[Gw.Tk.pf htk];rfl) ?_;exact Qk.k)(k:X):G:=h ⟨k⟩
def Z4a(h:Wz X->G:=by intro Qk;refine OW.Vu (i:=0) OG rfl rfl rfl rfl rfl rfl rfl K28 K4 ?_;exact Qk.k)(k:X):G:=h ⟨k⟩
def Z4c(h:Wz X->G:=by intro Qk;(first|refine CW.conv (ey (s:=(mz X.g.q X.key t s fr)) z2 [2,2,2,2,2,3,3] rfl (by rw[vO htc hta hnf,hrk,<-hlm,ae (show¬(Wi.app _ _ _ (rep X.g.q X.key t s fr).cd _).2=0 by assumption)];exact hzq2) hzok2) ?_|skip);exact Qk.k)(k:X):G:=h ⟨k⟩
def Z4d(h:Wz X->G:=by intro Qk;(first|refine CW.conv (ey z2 [0,0,0,0,0] rfl hzq2 hzok2) ?_|skip);exact Qk.k)(k:X):G:=h ⟨k⟩
def Z4f(h:Wz X->G:=by intro Qk;refine OW.Vu (i:=0) NN rfl rfl rfl rfl rfl rfl rfl K38 K4 ?_;exact Qk.k)(k:X):G:=h ⟨k⟩
def Z4h(h:Wz X->G:=by intro Qk;(first|refine E.AW.conv (yV (is:=[0,5,1,2,0]) (H':=[HP.aw BW 84 _,HP.cfg gD,HP.row 5 1 _ _ _ _,HP.ro _,HP.row 132 36 _ _ _ _]) rfl) ?_|refine E.AW.conv (yV (is:=[0,5,0,2,0]) (H':=[HP.aw BW 84 _,HP.cfg gD,HP.row 5 1 _ _ _ _,HP.ro _,HP.row 132 36 _ _ _ _]) rfl) ?_);exact Qk.k)(k:X):G:=h ⟨k⟩
def Z4i(h:Wz X->G:=by intro Qk;refine OW.pure rfl rfl rfl (PV.indexAddr (j:=0) (iH (i:=0) rfl) Ux Jx rfl rfl rfl rfl (Ow.fx.ct _) (show 0<2 by decide) K6) ?_;exact Qk.k)(k:X):G:=h ⟨k⟩
def Z4j(h:Wz X->G:=by intro Qk;refine OW.pure rfl rfl rfl (PV.eU (k:=0) Ow.fx (iH (i:=0) rfl) Gx rfl rfl (show 0<2 by decide)) ?_;exact Qk.k)(k:X):G:=h ⟨k⟩
def Z4k(h:Wz X->G:=by intro Qk;refine OW.pure rfl rfl rfl (PV.indexAddr (j:=1) (iH (i:=0) rfl) Ux Jx rfl rfl rfl rfl (Ow.fx.ct _) (show 1<2 by decide) K6) ?_;exact Qk.k)(k:X):G:=h ⟨k⟩
def Z4l(h:Wz X->G:=by intro Qk;refine OW.pure rfl rfl rfl (PV.eU (k:=1) Ow.fx (iH (i:=0) rfl) Gx rfl rfl (show 1<2 by decide)) ?_;exact Qk.k)(k:X):G:=h ⟨k⟩
def Z4m(h:Wz X->G:=by intro Qk;(first|(refine QW.off rfl rfl rfl ?_)|(refine QW.pure rfl rfl rfl (PV.indexAddr (oh hX) Ux Jx rfl rfl rfl rfl ?_ ?_ K6) ?_;(focus (first|(simp;done)|(simp;omega)|(rw[E.Fx.ct Ow.fx];done)|(rw[E.Fx.ct Ow.fx];omega)|(rw[E.Fx.iW Ow.fx];done)|(rw[E.Fx.iW Ow.fx];omega)));(focus (omega))));exact Qk.k)(k:X):G:=h ⟨k⟩
def Z4n(h:Wz X->G:=by intro Qk;(first|(refine QW.off rfl rfl rfl ?_)|(refine QW.pure rfl rfl rfl (PV.eU Ow.fx (oh hX) Gx rfl rfl ?_) ?_;(focus (omega))));exact Qk.k)(k:X):G:=h ⟨k⟩
def Z4o(h:Wz X->G:=by intro Qk;(first|(refine QW.off rfl rfl rfl ?_)|(refine QW.pure rfl rfl rfl (PV.oZ Ow.z Ow.fx (oh hX) Nx rfl rfl ?_ rfl) ?_;(focus (omega))));exact Qk.k)(k:X):G:=h ⟨k⟩
def Z4p(h:Wz X->G:=by intro Qk;(first|(refine QW.off rfl rfl rfl ?_)|(refine QW.pure rfl rfl rfl (PV.indexAddr (oh hY) Ux Jx rfl rfl rfl rfl ?_ ?_ K6) ?_;(focus (first|(simp;done)|(simp;omega)|(rw[E.Fx.ct Ow.fx];done)|(rw[E.Fx.ct Ow.fx];omega)|(rw[E.Fx.iW Ow.fx];done)|(rw[E.Fx.iW Ow.fx];omega)));(focus (omega))));exact Qk.k)(k:X):G:=h ⟨k⟩
def Z4q(h:Wz X->G:=by intro Qk;(first|(refine QW.off rfl rfl rfl ?_)|(refine QW.pure rfl rfl rfl (PV.eU Ow.fx (oh hY) Gx rfl rfl ?_) ?_;(focus (omega))));exact Qk.k)(k:X):G:=h ⟨k⟩
def Z4r(h:Wz X->G:=by intro Qk;(first|(refine QW.off rfl rfl rfl ?_)|(refine QW.pure rfl rfl rfl (PV.oZ Ow.z Ow.fx (oh hY) Nx rfl rfl ?_ rfl) ?_;(focus (omega))));exact Qk.k)(k:X):G:=h ⟨k⟩
def Z4s(h:Wz X->G:=by intro Qk;refine OW.pure rfl rfl rfl (PV.yi rfl rfl rfl) ?_;exact Qk.k)(k:X):G:=h ⟨k⟩
section
variable{A:Sort u}{X1:A->Prop}
def ZD(Q0:p0)(h:p0->(∀a,Wz (X1 a))->G:=by intro Q0 Qk;refine OW.bsl 1 _ rfl rfl (fun w=>Q0 _ w) (fun A2=>?_);exact(Qk A2).k)(k:(∀a,X1 a)):G:=h Q0 (fun a=>⟨k a⟩)
def Z13(h:(∀a,Wz (X1 a))->G:=by intro Qk;refine OW.Pq _ Ux Jx rfl rfl rfl rfl rfl rfl rfl K4 K1 (fun AT=>?_);exact(Qk AT).k)(k:(∀a,X1 a)):G:=h (fun a=>⟨k a⟩)
def Z18(Q0:p0)(h:p0->(∀a,Wz (X1 a))->G:=by intro Q0 Qk;refine OW.bsl 1 _ rfl rfl (fun w=>Q0 _ w) (fun A1=>?_);exact(Qk A1).k)(k:(∀a,X1 a)):G:=h Q0 (fun a=>⟨k a⟩)
def Z1i(h:(∀a,Wz (X1 a))->G:=by intro Qk;refine OW.box rfl rfl rfl rfl rfl rfl (fun B1=>?_);exact(Qk B1).k)(k:(∀a,X1 a)):G:=h (fun a=>⟨k a⟩)
def Z41(h:(∀a,Wz (X1 a))->G:=by intro Qk;refine OW.alloc (Jr) rfl rfl rfl rfl rfl (fun B2=>?_);exact(Qk B2).k)(k:(∀a,X1 a)):G:=h (fun a=>⟨k a⟩)
def Z4g(h:(∀a,Wz (X1 a))->G:=by intro Qk;refine OW.Hq Aw.z Aw.fx _ Ux Jx rfl rfl rfl rfl rfl rfl rfl K4 K1 (fun AR=>?_);exact(Qk AR).k)(k:(∀a,X1 a)):G:=h (fun a=>⟨k a⟩)
end
section
variable{A:Sort u}{B:A->Sort v}{X2:∀a,B a->Prop}
def ZE(h:(∀a b,Wz (X2 a b))->G:=by intro Qk;refine OW.ga (j:=0) (i:=0) Ux Jx rfl rfl rfl rfl rfl rfl rfl rfl rfl rfl K3 (fun A3 c3=>?_);exact(Qk A3 c3).k)(k:(∀a b,X2 a b)):G:=h (fun a b=>⟨k a b⟩)
def ZW(h:(∀a b,Wz (X2 a b))->G:=by intro Qk;refine OW.TL (i:=0) Ux Jx rfl rfl K6 rfl rfl rfl rfl rfl rfl rfl (oh hX) K15 K16 K4 K3 (fun A2 c2=>?_);exact(Qk A2 c2).k)(k:(∀a b,X2 a b)):G:=h (fun a b=>⟨k a b⟩)
def Z17(h:(∀a b,Wz (X2 a b))->G:=by intro Qk;refine CW.VS 0 rfl (fun AW cW=>?_);exact(Qk AW cW).k)(k:(∀a b,X2 a b)):G:=h (fun a b=>⟨k a b⟩)
def Z3y(h:(∀a b,Wz (X2 a b))->G:=by intro Qk;refine OW.call Mx rfl rfl rfl rfl rfl rfl _ (fun w hw=>ve BD (Sh.mk g t (eY g t) tick y.rs AD cD b3 y.mv [] .none 0) w (hw.Co (i:=0) (j:=3) (k:=2) rfl rfl rfl hg htm) hrl) ?_;rintro _ _ ⟨AC,cC,rfl,rfl⟩;exact(Qk AC cC).k)(k:(∀a b,X2 a b)):G:=h (fun a b=>⟨k a b⟩)
def Z3A(h:(∀a b,Wz (X2 a b))->G:=by intro Qk;refine OW.call Mx rfl rfl rfl rfl rfl rfl _ (fun w hw=>ji (eY g t) bD pick drop tick w (hw.oP htm) ⟨K46,K47⟩ hbk ⟨htk.1,by have:=htk.2;unfold last at this;omega⟩) ?_;rintro _ _ ⟨b3,rfl,hb3,rfl⟩;exact(Qk b3 hb3).k)(k:(∀a b,X2 a b)):G:=h (fun a b=>⟨k a b⟩)
def Z3E(h:(∀a b,Wz (X2 a b))->G:=by intro Qk;refine CW.Vn 0 rfl (fun AW cW=>?_);exact(Qk AW cW).k)(k:(∀a b,X2 a b)):G:=h (fun a b=>⟨k a b⟩)
def Z3H(h:(∀a b,Wz (X2 a b))->G:=by intro Qk;refine OW.call Mx rfl rfl rfl rfl rfl rfl _ (fun w hw=>fF Ak ck cur w K1 (htr w _ (hw.rd hX))) ?_;rintro _ _ ⟨AR,cR,rfl,rfl⟩;exact(Qk AR cR).k)(k:(∀a b,X2 a b)):G:=h (fun a b=>⟨k a b⟩)
def Z3S(h:(∀a b,Wz (X2 a b))->G:=by intro Qk;refine OW.call Mx rfl rfl rfl rfl rfl rfl _ (fun w hw=>FE X.g z.f t q.pick q.drop w hck (hw.lN hgr) hgf K52 hzF) ?_;rintro _ _ ⟨zf,rfl,rfl,hzz⟩;exact(Qk zf hzz).k)(k:(∀a b,X2 a b)):G:=h (fun a b=>⟨k a b⟩)
def Z3W(h:(∀a b,Wz (X2 a b))->G:=by intro Qk;refine OW.call Mx rfl rfl rfl rfl rfl rfl _ (fun w hw=>DR X.g z.f t q.num w hck (hw.lN hgr) hgf K52 hzF) ?_;rintro _ _ ⟨zf,rfl,rfl,hzz⟩;exact(Qk zf hzz).k)(k:(∀a b,X2 a b)):G:=h (fun a b=>⟨k a b⟩)
def Z42(h:(∀a b,Wz (X2 a b))->G:=by intro Qk;refine OW.call Mx rfl rfl rfl rfl rfl rfl _ (fun w hw=>JT X.g z.f x.x.tn x.x.rb w hck (hw.lN hgr) hgf K53 hzF) ?_;rintro _ _ ⟨zf,rfl,rfl,hzz⟩;exact(Qk zf hzz).k)(k:(∀a b,X2 a b)):G:=h (fun a b=>⟨k a b⟩)
def Z45(h:(∀a b,Wz (X2 a b))->G:=by intro Qk;refine OW.call Mx rfl rfl rfl rfl rfl rfl _ (fun w hw=>Nu (cv z x.x.tn.toNat).A (cv z x.x.tn.toNat).c (cv z x.x.tn.toNat).a.ring X.K X.kc X.key x.x.tn x.x.role x.x.aG z.f.tk w hxf.role (by first|exact(Si.ra (hw.aL (i:=1) rfl) (show x.x.tn.toNat<z.ws.length by omega)).at 0 rfl|exact(Si.ra (hw.aL (i:=2) rfl) (show x.x.tn.toNat<z.ws.length by omega)).at 0 rfl|exact(Si.ra (hw.aL (i:=3) rfl) (show x.x.tn.toNat<z.ws.length by omega)).at 0 rfl|exact(Si.ra (hw.aL (i:=4) rfl) (show x.x.tn.toNat<z.ws.length by omega)).at 0 rfl|exact(Si.ra (hw.aL (i:=5) rfl) (show x.x.tn.toNat<z.ws.length by omega)).at 0 rfl|exact(Si.ra (hw.aL (i:=6) rfl) (show x.x.tn.toNat<z.ws.length by omega)).at 0 rfl|exact(Si.ra (hw.aL (i:=7) rfl) (show x.x.tn.toNat<z.ws.length by omega)).at 0 rfl|exact(Si.ra (hw.aL (i:=8) rfl) (show x.x.tn.toNat<z.ws.length by omega)).at 0 rfl) (hw.rd hH.hk) (hw.rd hH.hc)) ?_;rintro _ _ ⟨AV,cV,rfl,rfl⟩;exact(Qk AV cV).k)(k:(∀a b,X2 a b)):G:=h (fun a b=>⟨k a b⟩)
def Z4b(h:(∀a b,Wz (X2 a b))->G:=by intro Qk;refine OW.call Mx rfl rfl rfl rfl rfl rfl _ (fun w hw=>RN (cv z2 t.toNat).lw s.f.tk y.r.kd (Gw.lK X.g.q X.key t s fr).2.2 A d fr w (by rw[hlg2];exact hlf2) (hzok2.2 _ (nZ hz2t)) K1 (by first|exact(Si.ra (hw.aL (i:=2) rfl) hz2t).at 1 rfl|exact(Si.ra (hw.aL (i:=3) rfl) hz2t).at 1 rfl|exact(Si.ra (hw.aL (i:=4) rfl) hz2t).at 1 rfl|exact(Si.ra (hw.aL (i:=5) rfl) hz2t).at 1 rfl|exact(Si.ra (hw.aL (i:=6) rfl) hz2t).at 1 rfl|exact(Si.ra (hw.aL (i:=7) rfl) hz2t).at 1 rfl|exact(Si.ra (hw.aL (i:=8) rfl) hz2t).at 1 rfl) (hw.rd hX) (hw.rd hH.hc)) ?_;rintro _ _ ⟨AL,cL,rfl,rfl⟩;exact(Qk AL cL).k)(k:(∀a b,X2 a b)):G:=h (fun a b=>⟨k a b⟩)
end
section
variable{A:Sort u}{B:A->Sort v}{C:∀a,B a->Sort w}{X3:∀a b,C a b->Prop}
def ZI(h:(∀a b c,Wz (X3 a b c))->G:=by intro Qk;refine OW.J5 (m:=m) Ux Ux Jx rfl rfl rfl rfl rfl rfl rfl rfl K1 K4 K1 (fun A2 c2 zs2=>?_);exact(Qk A2 c2 zs2).k)(k:(∀a b c,X3 a b c)):G:=h (fun a b c=>⟨k a b c⟩)
def Z3Q(h:(∀a b c,Wz (X3 a b c))->G:=by intro Qk;refine CW.CY 0 rfl (fun z hzq hzok=>?_);exact(Qk z hzq hzok).k)(k:(∀a b c,X3 a b c)):G:=h (fun a b c=>⟨k a b c⟩)
end
section
variable{A:Sort u}{B:A->Sort v}{C:∀a,B a->Sort w}{D:∀a b,C a b->Sort y}{X4:∀a b c,D a b c->Prop}
def Z3w(h:(∀a b c d,Wz (X4 a b c d))->G:=by intro Qk;refine OW.call Mx rfl rfl rfl rfl rfl rfl _ (fun w hw=>aaB g t y tick w (hw.lN hg) hgf hT htk (hw.sy hmem) hV hlt (fu AP 6 4) 2 K49) ?_;rintro _ _ ⟨s9,AR,cR,hs9,rfl,rfl⟩;exact(Qk s9 AR cR hs9).k)(k:(∀a b c d,X4 a b c d)):G:=h (fun a b c d=>⟨k a b c d⟩)
def Z4e(h:(∀a b c d,Wz (X4 a b c d))->G:=by intro Qk;refine OW.call Mx rfl rfl rfl rfl rfl rfl _ (fun w hw=>N2 X.g z.f w hck (hw.lN hgr) hgf K53 hzF (by have:=hzF.tk;have h9:z.f.q.tk=z.f.tk:=rfl;unfold last at this;omega)) ?_;rintro _ _ ⟨zf,AF,cF,hzf2,rfl,rfl⟩;exact(Qk zf AF cF hzf2).k)(k:(∀a b c d,X4 a b c d)):G:=h (fun a b c d=>⟨k a b c d⟩)
end
end
def Qe{X:Prop}(_:Mk)(x:X):X:=x
def Kd{p:Prop}(h:p:=by decide+kernel):p:=h
def Rq{p:Prop}(h:p:=by first|exact oh (by assumption)|exact iH (i:=0) rfl|exact iH (i:=1) rfl|exact iH (i:=2) rfl|exact iH (i:=3) rfl|exact iH (i:=4) rfl|exact iH (i:=5) rfl|exact iH (i:=6) rfl|fail):p:=h
def Rp{p:Prop}(h:p:=by first|exact oh (by assumption)|exact ye (yI (by assumption))|exact ye (uO (i:=0) rfl)|exact ye (uO (i:=1) rfl)|exact ye (uO (i:=2) rfl)|exact ye (uO (i:=3) rfl)|fail):p:=h
def Ls{p:Prop}(h:p:=by first|(simp;done)|(simp;omega)|(rw[Qg];first|done|omega|fail)|(rw[Qf];first|done|omega|fail)|fail):p:=h
def Ar{p:Prop}(h:p:=by first|rfl|(simp;done)|(simp;omega)|(simp only[gr,dC];assumption)|omega|fail):p:=h
def Pv{p:Prop}(h:p:=by first|(show PV _ _ _ _ _ _ (.mk _ (.move _) _ _ _ _) _;first|exact PV.move rfl rfl|fail)|(show PV _ _ _ _ _ _ (.mk _ (.assign _) _ _ _ _) _;first|exact PV.assign rfl rfl|fail)|(show PV _ _ _ _ _ _ (.mk _ (.fieldAddr _ _ _) _ _ _ _) _;first|exact PV.fieldAddr Ax rfl rfl|(refine PV.i4 Rq Gx rfl rfl ?_;omega)|(refine PV.i3 Rq Gx rfl rfl ?_;omega)|fail)|(show PV _ _ _ _ _ _ (.mk _ (.load _ _) _ _ _ _) _;first|(refine PV.lb (i:=0) Ix rfl rfl rfl ?_;exact Ar)|(refine PV.lb (i:=1) Ix rfl rfl rfl ?_;exact Ar)|(refine PV.lb (i:=2) Ix rfl rfl rfl ?_;exact Ar)|(refine PV.lb (i:=3) Ix rfl rfl rfl ?_;exact Ar)|(refine PV.lb (i:=4) Ix rfl rfl rfl ?_;exact Ar)|(refine PV.lb (i:=5) Ix rfl rfl rfl ?_;exact Ar)|exact PV.load (i:=0) Nx rfl rfl rfl rfl|exact PV.load (i:=1) Nx rfl rfl rfl rfl|exact PV.load (i:=2) Nx rfl rfl rfl rfl|exact PV.load (i:=3) Nx rfl rfl rfl rfl|exact PV.load (i:=4) Nx rfl rfl rfl rfl|exact PV.load (i:=5) Nx rfl rfl rfl rfl|exact PV.load (i:=6) Nx rfl rfl rfl rfl|exact PV.load (i:=7) Nx rfl rfl rfl rfl|exact PV.load (i:=8) Nx rfl rfl rfl rfl|exact PV.load (i:=9) Nx rfl rfl rfl rfl|exact PV.jD (i:=0) Ix rfl rfl rfl rfl|exact PV.jD (i:=1) Ix rfl rfl rfl rfl|exact PV.jD (i:=2) Ix rfl rfl rfl rfl|exact PV.jD (i:=3) Ix rfl rfl rfl rfl|exact PV.jD (i:=4) Ix rfl rfl rfl rfl|exact PV.jD (i:=5) Ix rfl rfl rfl rfl|exact PV.jD (i:=6) Ix rfl rfl rfl rfl|exact PV.jD (i:=7) Ix rfl rfl rfl rfl|exact PV.jD (i:=8) Ix rfl rfl rfl rfl|exact PV.jD (i:=9) Ix rfl rfl rfl rfl|exact PV.nk Rp Nx rfl rfl rfl|exact PV.MZ Rp Ix rfl rfl rfl (by decide)|(refine PV.qf Rq Nx rfl rfl ?_;omega)|(refine PV.yY Rq Nx rfl rfl ?_;omega)|(refine PV.RO Rq Ix rfl rfl ?_;omega)|(refine PV.RP Rq Nx rfl rfl ?_ rfl;omega)|(refine PV.G6 Rq Nx rfl rfl ?_ rfl;omega)|(refine PV.ni Rq Nx rfl rfl ?_;omega)|(refine PV.i5 Rq Nx rfl rfl ?_ rfl;omega)|(refine PV.i6 Rq Ix rfl rfl ?_;omega)|(refine PV.i7 Rq Ix rfl rfl ?_ rfl (by decide);omega)|(refine PV.pL (i:=0) Nx rfl rfl rfl ?_;exact Ar)|(refine PV.pL (i:=1) Nx rfl rfl rfl ?_;exact Ar)|(refine PV.pL (i:=2) Nx rfl rfl rfl ?_;exact Ar)|(refine PV.pL (i:=3) Nx rfl rfl rfl ?_;exact Ar)|(refine PV.yJ Rq Nx rfl rfl ?_;omega)|(refine PV.Kn Rq Ix rfl rfl ?_;omega)|(refine PV.uC Rq Ix (by decide) rfl rfl ?_;exact Ar)|fail)|(show PV _ _ _ _ _ _ (.mk _ (.binOp _ _ _ _ _) _ _ _ _) _;first|exact PV.lss rfl rfl rfl|exact PV.eql rfl rfl rfl|exact PV.neq rfl rfl rfl|exact PV.gtr rfl rfl rfl|exact PV.geq rfl rfl rfl|exact PV.leq rfl rfl rfl|(refine PV.GC rfl rfl rfl ?_;omega)|(refine PV.UX rfl rfl rfl ?_;omega)|(refine PV.H9 rfl rfl rfl ?_;omega)|exact PV.slnil Ux rfl rfl rfl|(refine PV.Sr rfl rfl rfl ?_;omega)|(refine PV.shr rfl rfl rfl ?_;first|omega|exact uM _|fail)|(refine PV.shl rfl rfl rfl ?_;first|omega|exact uM _|fail)|(refine PV.TX rfl rfl rfl ?_ ?_<;>omega)|(refine PV.UO rfl rfl rfl ?_ ?_<;>omega)|exact PV.xo32 rfl rfl rfl|exact PV.an32 rfl rfl rfl|exact PV.or32 rfl rfl rfl|exact PV.a32 rfl rfl rfl|exact PV.an64 rfl rfl rfl|fail)|(show PV _ _ _ _ _ _ (.mk _ (.call _) _ _ _ _) _;first|exact PV.len Ux rfl rfl|exact PV.adP Ux rfl rfl|exact PV.cap Ux rfl rfl|exact PV.max rfl rfl rfl|exact PV.min rfl rfl rfl|fail)|(show PV _ _ _ _ _ _ (.mk _ (.extract _ _) _ _ _ _) _;first|exact PV.II rfl rfl rfl|fail)|(show PV _ _ _ _ _ _ (.mk _ (.pick _ _ _) _ _ _ _) _;first|exact PV.yi rfl rfl rfl|exact PV.yo rfl rfl rfl|fail)|(show PV _ _ _ _ _ _ (.mk _ (.indexAddr _ _ _) _ _ _ _) _;first|(refine PV.aY Rq Ux Jx rfl rfl rfl rfl ?_ ?_;(focus exact Ls);omega)|(refine PV.aY Rq Ux Jx rfl rfl rfl (E.tn ?_) ?_ ?_;(focus omega);(focus exact Ls);omega)|(refine PV.indexAddr Rq Ux Jx rfl rfl rfl rfl ?_ ?_ (by decide);(focus exact Ls);omega)|(refine PV.indexAddr Rq Ux Jx rfl rfl rfl (E.tn ?_) ?_ ?_ (by decide);(focus omega);(focus exact Ls);omega)|(refine PV.wT Ux Jx rfl rfl rfl rfl ?_;omega)|(refine PV.wT Ux Jx rfl rfl rfl (E.tn ?_) ?_;(focus omega);omega)|(refine PV.va Ux Jx rfl rfl rfl rfl ?_;omega)|(refine PV.va Ux Jx rfl rfl rfl (E.tn ?_) ?_;(focus omega);omega)|fail)|(show PV _ _ _ _ _ _ (.mk _ (.nilCheck _) _ _ _ _) _;first|exact PV.nilCheck rfl rfl|(refine PV.i2 Rq rfl rfl ?_;omega)|(refine PV.i1 Rq rfl rfl ?_;omega)|fail)|(show PV _ _ _ _ _ _ (.mk _ (.unOp _ _ _) _ _ _ _) _;first|exact PV.not rfl rfl|fail)|(show PV _ _ _ _ _ _ (.mk _ (.convert _ _ _) _ _ _ _) _;first|(refine PV.TJ Ux Ux rfl rfl ?_;first|exact wrap_u8 _|(simp only[IntKind.wrap_i64,IntKind.wrap_u64,IntKind.wrap_u8];omega)|fail)|exact PV.conv Ux Ux rfl rfl|fail)|(show PV _ _ _ _ _ _ (.mk _ (.makeFunc _ _ _) _ _ _ _) _;first|exact PV.makeFunc rfl rfl rfl|fail)|(show PV _ _ _ _ _ _ (.mk _ (.build _ _) _ _ _ _) _;first|exact PV.bld (p:=#[_,_]) rfl rfl rfl|exact PV.bld (p:=#[_]) rfl rfl rfl|exact PV.bld (p:=#[_,_,_]) rfl rfl rfl|exact PV.bld (p:=#[]) rfl rfl rfl|exact PV.bld (p:=#[_,_,_,_]) rfl rfl rfl|exact PV.bld (p:=#[_,_,_,_,_]) rfl rfl rfl|exact PV.bld (p:=#[_,_,_,_,_,_]) rfl rfl rfl|exact PV.bld (p:=#[_,_,_,_,_,_,_]) rfl rfl rfl|exact PV.bld (p:=#[_,_,_,_,_,_,_,_]) rfl rfl rfl|exact PV.bld (p:=#[_,_,_,_,_,_,_,_,_]) rfl rfl rfl|exact PV.bld (p:=#[_,_,_,_,_,_,_,_,_,_]) rfl rfl rfl|fail)|(show PV _ _ _ _ _ _ (.mk _ (.makeInterface _ _) _ _ _ _) _;first|exact PV.Tz Cx rfl rfl|fail)|(show PV _ _ _ _ _ _ (.mk _ (.typeAssert _ _ _ _) _ _ _ _) _;first|exact PV.pI Tx rfl rfl|exact PV.Ri Fx rfl rfl|fail)|(show PV _ _ _ _ _ _ (.mk _ (.sliceToArrayPointer _ _) _ _ _ _) _;first|(refine PV.H6 Ux rfl rfl ?_;exact Ar)|fail)|fail):p:=h
def Qy{p G:Prop}(_:p)(h:False):G:=h.elim
def Z1{G X:Prop}(h:Mk->Wz X->G:=by first|(intro _ Qk;intros;(first|(show OW _ _ _ _ _ _ _ _ _;first|(show OW _ _ _ _ _ _ (.mk _ _ _ _ _ none::_) _ _;first|refine OW.pure rfl rfl rfl Pv ?_|refine OW.box rfl rfl rfl rfl rfl rfl fun _=>?_|refine OW.alloc Jr rfl rfl rfl rfl rfl fun _=>?_|(show OW _ _ _ _ _ _ (.mk _ (.store _ _ _) _ _ _ _::_) _ _;first|refine OW.store (i:=0) Js rfl rfl rfl rfl rfl rfl rfl rfl rfl ?_|refine OW.store (i:=1) Js rfl rfl rfl rfl rfl rfl rfl rfl rfl ?_|refine OW.store (i:=2) Js rfl rfl rfl rfl rfl rfl rfl rfl rfl ?_|refine OW.store (i:=3) Js rfl rfl rfl rfl rfl rfl rfl rfl rfl ?_|refine OW.store (i:=4) Js rfl rfl rfl rfl rfl rfl rfl rfl rfl ?_|refine OW.store (i:=5) Js rfl rfl rfl rfl rfl rfl rfl rfl rfl ?_|refine OW.store (i:=6) Js rfl rfl rfl rfl rfl rfl rfl rfl rfl ?_|refine OW.store (i:=7) Js rfl rfl rfl rfl rfl rfl rfl rfl rfl ?_|refine OW.store (i:=8) Js rfl rfl rfl rfl rfl rfl rfl rfl rfl ?_|refine OW.store (i:=9) Js rfl rfl rfl rfl rfl rfl rfl rfl rfl ?_|refine OW.store (i:=10) Js rfl rfl rfl rfl rfl rfl rfl rfl rfl ?_|refine OW.store (i:=11) Js rfl rfl rfl rfl rfl rfl rfl rfl rfl ?_|(refine OW.ma (i:=0) Js rfl rfl rfl rfl rfl rfl rfl (oM _) rfl rfl ?_ ?_;focus omega)|(refine OW.ma (i:=1) Js rfl rfl rfl rfl rfl rfl rfl (oM _) rfl rfl ?_ ?_;focus omega)|fail)|fail)|(refine OW.gb rfl fun hg=>?_;(first|refine OW.off hg rfl rfl ?_|refine OW.pure hg rfl rfl Pv ?_|refine OW.MI hg rfl ?_|refine OW.box rfl hg rfl rfl rfl rfl fun _=>?_|refine OW.alloc Jr rfl hg rfl rfl rfl fun _=>?_|((fail_if_success (first|refine OW.lt true rfl rfl rfl rfl ?_|refine OW.lt false rfl rfl rfl rfl ?_|fail));first|(refine OW.set (.bool true) rfl rfl rfl rfl (aq Value.bool ?_) ?_;(focus first|rfl|assumption|(simp only[bz];done)|(simp only[bz];omega)|fail))|(refine OW.set (.bool false) rfl rfl rfl rfl (aq Value.bool ?_) ?_;(focus first|rfl|assumption|(simp only[bz];done)|(simp only[bz];omega)|fail))|(refine OW.spl rfl rfl rfl rfl (fun hc=>?_) (fun hc=>?_);(focus first|(cases hc;done)|(simp only[bz,reduceCtorEq] at hc;done)|((try simp only[bz,reduceCtorEq] at hc);exfalso;first|assumption|contradiction|omega|fail)|fail);(try simp only[bz,reduceCtorEq] at hc);revert hc;intro _)|(refine OW.spl rfl rfl rfl rfl (fun hc=>?_) (fun hc=>?_);rotate_left;(focus first|(cases hc;done)|(simp only[bz,reduceCtorEq] at hc;done)|((try simp only[bz,reduceCtorEq] at hc);exfalso;first|assumption|contradiction|omega|fail)|fail);(try simp only[bz,reduceCtorEq] at hc);revert hc;intro _)|fail)|fail);clear hg)|(show OW _ _ _ _ _ _ (.mk _ (.store _ _ _) _ _ _ _::_) _ _;first|refine OW.store (i:=0) Js rfl rfl rfl rfl rfl rfl rfl rfl rfl ?_|refine OW.store (i:=1) Js rfl rfl rfl rfl rfl rfl rfl rfl rfl ?_|refine OW.store (i:=2) Js rfl rfl rfl rfl rfl rfl rfl rfl rfl ?_|refine OW.store (i:=3) Js rfl rfl rfl rfl rfl rfl rfl rfl rfl ?_|refine OW.store (i:=4) Js rfl rfl rfl rfl rfl rfl rfl rfl rfl ?_|refine OW.store (i:=5) Js rfl rfl rfl rfl rfl rfl rfl rfl rfl ?_|refine OW.store (i:=6) Js rfl rfl rfl rfl rfl rfl rfl rfl rfl ?_|refine OW.store (i:=7) Js rfl rfl rfl rfl rfl rfl rfl rfl rfl ?_|refine OW.store (i:=8) Js rfl rfl rfl rfl rfl rfl rfl rfl rfl ?_|refine OW.store (i:=9) Js rfl rfl rfl rfl rfl rfl rfl rfl rfl ?_|refine OW.store (i:=10) Js rfl rfl rfl rfl rfl rfl rfl rfl rfl ?_|refine OW.store (i:=11) Js rfl rfl rfl rfl rfl rfl rfl rfl rfl ?_|(refine OW.ma (i:=0) Js rfl rfl rfl rfl rfl rfl rfl (oM _) rfl rfl ?_ ?_;focus omega)|(refine OW.ma (i:=1) Js rfl rfl rfl rfl rfl rfl rfl (oM _) rfl rfl ?_ ?_;focus omega)|fail)|fail)|(show QW _ _ _ _ _ _ _ _ _;first|(show QW _ _ _ _ _ _ (.mk _ _ _ _ _ none::_) _ _;refine QW.pure rfl rfl rfl Pv ?_)|(refine QW.gb rfl fun hg=>?_;(first|refine QW.off hg rfl rfl ?_|refine QW.pure hg rfl rfl Pv ?_|((fail_if_success (first|refine QW.lt true rfl rfl rfl rfl ?_|refine QW.lt false rfl rfl rfl rfl ?_|fail));first|(refine QW.set (.bool true) rfl rfl rfl rfl (aq Value.bool ?_) ?_;(focus first|rfl|assumption|(simp only[bz];done)|(simp only[bz];omega)|fail))|(refine QW.set (.bool false) rfl rfl rfl rfl (aq Value.bool ?_) ?_;(focus first|rfl|assumption|(simp only[bz];done)|(simp only[bz];omega)|fail))|(refine QW.spl rfl rfl rfl rfl (fun hc=>?_) (fun hc=>?_);(focus first|(cases hc;done)|(simp only[bz,reduceCtorEq] at hc;done)|((try simp only[bz,reduceCtorEq] at hc);exfalso;first|assumption|contradiction|omega|fail)|fail);(try simp only[bz,reduceCtorEq] at hc);revert hc;intro _)|(refine QW.spl rfl rfl rfl rfl (fun hc=>?_) (fun hc=>?_);rotate_left;(focus first|(cases hc;done)|(simp only[bz,reduceCtorEq] at hc;done)|((try simp only[bz,reduceCtorEq] at hc);exfalso;first|assumption|contradiction|omega|fail)|fail);(try simp only[bz,reduceCtorEq] at hc);revert hc;intro _)|fail)|fail);clear hg)|fail)|fail);repeat(rename_i Qa;first|exact Qe Qa Qk.k|revert Qa))|fail)(k:X):G:=h ⟨⟩ ⟨k⟩
def Zo{G X:Prop}(h:Mk->Wz X->G:=by first|(intro _ Qk;intros;(repeat(refine Z1 (k:=?_);intros));repeat(rename_i Qa;first|exact Qe Qa Qk.k|revert Qa))|fail)(k:X):G:=h ⟨⟩ ⟨k⟩
def Zz{G X:Prop}(h:Mk->Wz X->G:=by first|(intro _ Qk;intros;refine CW.region ?_;refine Zo (k:=?_);intros;repeat(rename_i Qa;first|exact Qe Qa Qk.k|revert Qa))|fail)(k:X):G:=h ⟨⟩ ⟨k⟩
def Zj{G X:Prop}(h:Mk->Wz X->G:=by first|(intro _ Qk;intros;(show OW _ _ _ _ _ (AH _ _ _) _ _ _;refine E.AW.nix ?_ ?_;(focus((repeat(first|exact sn|refine sc 0 rfl ?_|refine sc 1 rfl ?_|refine sc 2 rfl ?_|refine sc 3 rfl ?_|refine sc 4 rfl ?_|refine sc 5 rfl ?_|refine sc 6 rfl ?_|refine sc 7 rfl ?_|refine sc 8 rfl ?_|refine sc 9 rfl ?_|refine sc 10 rfl ?_|refine sc 11 rfl ?_|refine sc 12 rfl ?_|refine sc 13 rfl ?_|refine sc 14 rfl ?_|refine sc 15 rfl ?_|fail));done)));repeat(rename_i Qa;first|exact Qe Qa Qk.k|revert Qa))|fail)(k:X):G:=h ⟨⟩ ⟨k⟩
def ZF{G X:Prop}(h:Wz X->G:=by first|(intro Qk;(first|refine E.AW.xE _ Q1 Q2 Q3 Q4 hg rfl rfl ?_ Kd|refine E.AW.first _ Q1 Q2 Q3 Q4 hg rfl rfl Pv ?_ Kd|refine E.AW.ru [[]] _ Q1 Q2 Q3 Q4 hg rfl rfl Pv ?_ Kd|refine E.AW.fT _ Q1 Q2 Q3 Q4 hg rfl rfl Pv ?_ Kd|fail);exact Qk.k)|fail)(k:X):G:=h ⟨k⟩
def ZO{G X:Prop}(h:Mk->Wz X->G:=by first|(intro _ Qk;refine Z1 (k:=?_);refine Zj (k:=?_);intros;repeat(rename_i Qa;first|exact Qe Qa Qk.k|revert Qa))|fail)(k:X):G:=h ⟨⟩ ⟨k⟩
def Za{G X:Prop}(h:Mk->Wz X->G:=by first|(intro _ Qk;intros;(first|(refine E.AW.pn fun Q1 Q2 Q3 Q4 hg=>?_;refine ZF (k:=?_);clear hg Q1 Q2 Q3 Q4)|(refine E.AW.pq 0 fun Q1 Q2 Q3 Q4 hg=>?_;refine ZF (k:=?_);clear hg Q1 Q2 Q3 Q4)|(refine E.AW.pq 1 fun Q1 Q2 Q3 Q4 hg=>?_;refine ZF (k:=?_);clear hg Q1 Q2 Q3 Q4)|(refine E.AW.pq 2 fun Q1 Q2 Q3 Q4 hg=>?_;refine ZF (k:=?_);clear hg Q1 Q2 Q3 Q4)|(refine E.AW.pq 3 fun Q1 Q2 Q3 Q4 hg=>?_;refine ZF (k:=?_);clear hg Q1 Q2 Q3 Q4)|(refine E.AW.pq 4 fun Q1 Q2 Q3 Q4 hg=>?_;refine ZF (k:=?_);clear hg Q1 Q2 Q3 Q4)|(refine E.AW.pq 5 fun Q1 Q2 Q3 Q4 hg=>?_;refine ZF (k:=?_);clear hg Q1 Q2 Q3 Q4)|(refine E.AW.pq 6 fun Q1 Q2 Q3 Q4 hg=>?_;refine ZF (k:=?_);clear hg Q1 Q2 Q3 Q4)|(refine E.AW.pq 7 fun Q1 Q2 Q3 Q4 hg=>?_;refine ZF (k:=?_);clear hg Q1 Q2 Q3 Q4)|(refine E.AW.pq 8 fun Q1 Q2 Q3 Q4 hg=>?_;refine ZF (k:=?_);clear hg Q1 Q2 Q3 Q4)|(refine E.AW.pq 9 fun Q1 Q2 Q3 Q4 hg=>?_;refine ZF (k:=?_);clear hg Q1 Q2 Q3 Q4)|(refine E.AW.pq 10 fun Q1 Q2 Q3 Q4 hg=>?_;refine ZF (k:=?_);clear hg Q1 Q2 Q3 Q4)|(refine E.AW.pq 11 fun Q1 Q2 Q3 Q4 hg=>?_;refine ZF (k:=?_);clear hg Q1 Q2 Q3 Q4)|(refine E.AW.pq 12 fun Q1 Q2 Q3 Q4 hg=>?_;refine ZF (k:=?_);clear hg Q1 Q2 Q3 Q4)|(refine E.AW.pq 13 fun Q1 Q2 Q3 Q4 hg=>?_;refine ZF (k:=?_);clear hg Q1 Q2 Q3 Q4)|(refine E.AW.pq 14 fun Q1 Q2 Q3 Q4 hg=>?_;refine ZF (k:=?_);clear hg Q1 Q2 Q3 Q4)|(refine E.AW.pq 15 fun Q1 Q2 Q3 Q4 hg=>?_;refine ZF (k:=?_);clear hg Q1 Q2 Q3 Q4)|(refine E.AW.pq 16 fun Q1 Q2 Q3 Q4 hg=>?_;refine ZF (k:=?_);clear hg Q1 Q2 Q3 Q4)|(refine E.AW.pq 17 fun Q1 Q2 Q3 Q4 hg=>?_;refine ZF (k:=?_);clear hg Q1 Q2 Q3 Q4)|(refine E.AW.pq 18 fun Q1 Q2 Q3 Q4 hg=>?_;refine ZF (k:=?_);clear hg Q1 Q2 Q3 Q4)|(refine E.AW.pq 19 fun Q1 Q2 Q3 Q4 hg=>?_;refine ZF (k:=?_);clear hg Q1 Q2 Q3 Q4)|(refine E.AW.pq 20 fun Q1 Q2 Q3 Q4 hg=>?_;refine ZF (k:=?_);clear hg Q1 Q2 Q3 Q4)|(refine E.AW.pq 21 fun Q1 Q2 Q3 Q4 hg=>?_;refine ZF (k:=?_);clear hg Q1 Q2 Q3 Q4)|(refine E.AW.pq 22 fun Q1 Q2 Q3 Q4 hg=>?_;refine ZF (k:=?_);clear hg Q1 Q2 Q3 Q4)|(refine E.AW.pq 23 fun Q1 Q2 Q3 Q4 hg=>?_;refine ZF (k:=?_);clear hg Q1 Q2 Q3 Q4)|(refine E.AW.pq 24 fun Q1 Q2 Q3 Q4 hg=>?_;refine ZF (k:=?_);clear hg Q1 Q2 Q3 Q4)|(refine E.AW.pq 25 fun Q1 Q2 Q3 Q4 hg=>?_;refine ZF (k:=?_);clear hg Q1 Q2 Q3 Q4)|(refine E.AW.pq 26 fun Q1 Q2 Q3 Q4 hg=>?_;refine ZF (k:=?_);clear hg Q1 Q2 Q3 Q4)|(refine E.AW.pq 27 fun Q1 Q2 Q3 Q4 hg=>?_;refine ZF (k:=?_);clear hg Q1 Q2 Q3 Q4)|(refine E.AW.pq 28 fun Q1 Q2 Q3 Q4 hg=>?_;refine ZF (k:=?_);clear hg Q1 Q2 Q3 Q4)|(refine E.AW.pq 29 fun Q1 Q2 Q3 Q4 hg=>?_;refine ZF (k:=?_);clear hg Q1 Q2 Q3 Q4)|(refine E.AW.pq 30 fun Q1 Q2 Q3 Q4 hg=>?_;refine ZF (k:=?_);clear hg Q1 Q2 Q3 Q4)|(refine E.AW.pq 31 fun Q1 Q2 Q3 Q4 hg=>?_;refine ZF (k:=?_);clear hg Q1 Q2 Q3 Q4)|(refine E.AW.pq 32 fun Q1 Q2 Q3 Q4 hg=>?_;refine ZF (k:=?_);clear hg Q1 Q2 Q3 Q4)|(refine E.AW.pq 33 fun Q1 Q2 Q3 Q4 hg=>?_;refine ZF (k:=?_);clear hg Q1 Q2 Q3 Q4)|(refine E.AW.pq 34 fun Q1 Q2 Q3 Q4 hg=>?_;refine ZF (k:=?_);clear hg Q1 Q2 Q3 Q4)|(refine E.AW.pq 35 fun Q1 Q2 Q3 Q4 hg=>?_;refine ZF (k:=?_);clear hg Q1 Q2 Q3 Q4)|(refine E.AW.pq 36 fun Q1 Q2 Q3 Q4 hg=>?_;refine ZF (k:=?_);clear hg Q1 Q2 Q3 Q4)|(refine E.AW.pq 37 fun Q1 Q2 Q3 Q4 hg=>?_;refine ZF (k:=?_);clear hg Q1 Q2 Q3 Q4)|(refine E.AW.pq 38 fun Q1 Q2 Q3 Q4 hg=>?_;refine ZF (k:=?_);clear hg Q1 Q2 Q3 Q4)|(refine E.AW.pq 39 fun Q1 Q2 Q3 Q4 hg=>?_;refine ZF (k:=?_);clear hg Q1 Q2 Q3 Q4)|(refine E.AW.pq 40 fun Q1 Q2 Q3 Q4 hg=>?_;refine ZF (k:=?_);clear hg Q1 Q2 Q3 Q4)|(refine E.AW.pq 41 fun Q1 Q2 Q3 Q4 hg=>?_;refine ZF (k:=?_);clear hg Q1 Q2 Q3 Q4)|(refine E.AW.pq 42 fun Q1 Q2 Q3 Q4 hg=>?_;refine ZF (k:=?_);clear hg Q1 Q2 Q3 Q4)|(refine E.AW.pq 43 fun Q1 Q2 Q3 Q4 hg=>?_;refine ZF (k:=?_);clear hg Q1 Q2 Q3 Q4)|(refine E.AW.pq 44 fun Q1 Q2 Q3 Q4 hg=>?_;refine ZF (k:=?_);clear hg Q1 Q2 Q3 Q4)|(refine E.AW.pq 45 fun Q1 Q2 Q3 Q4 hg=>?_;refine ZF (k:=?_);clear hg Q1 Q2 Q3 Q4)|(refine E.AW.pq 46 fun Q1 Q2 Q3 Q4 hg=>?_;refine ZF (k:=?_);clear hg Q1 Q2 Q3 Q4)|(refine E.AW.pq 47 fun Q1 Q2 Q3 Q4 hg=>?_;refine ZF (k:=?_);clear hg Q1 Q2 Q3 Q4)|(refine E.AW.one 0 Kd rfl ?_;refine ZO (k:=?_);intros)|(refine E.AW.one 1 Kd rfl ?_;refine ZO (k:=?_);intros)|(refine E.AW.one 2 Kd rfl ?_;refine ZO (k:=?_);intros)|(refine E.AW.one 3 Kd rfl ?_;refine ZO (k:=?_);intros)|(refine E.AW.one 4 Kd rfl ?_;refine ZO (k:=?_);intros)|(refine E.AW.one 5 Kd rfl ?_;refine ZO (k:=?_);intros)|(refine E.AW.one 6 Kd rfl ?_;refine ZO (k:=?_);intros)|(refine E.AW.one 7 Kd rfl ?_;refine ZO (k:=?_);intros)|(refine E.AW.one 8 Kd rfl ?_;refine ZO (k:=?_);intros)|(refine E.AW.one 9 Kd rfl ?_;refine ZO (k:=?_);intros)|(refine E.AW.one 10 Kd rfl ?_;refine ZO (k:=?_);intros)|(refine E.AW.one 11 Kd rfl ?_;refine ZO (k:=?_);intros)|(refine E.AW.one 12 Kd rfl ?_;refine ZO (k:=?_);intros)|(refine E.AW.one 13 Kd rfl ?_;refine ZO (k:=?_);intros)|(refine E.AW.one 14 Kd rfl ?_;refine ZO (k:=?_);intros)|(refine E.AW.one 15 Kd rfl ?_;refine ZO (k:=?_);intros)|(refine E.AW.one 16 Kd rfl ?_;refine ZO (k:=?_);intros)|(refine E.AW.one 17 Kd rfl ?_;refine ZO (k:=?_);intros)|(refine E.AW.one 18 Kd rfl ?_;refine ZO (k:=?_);intros)|(refine E.AW.one 19 Kd rfl ?_;refine ZO (k:=?_);intros)|(refine E.AW.one 20 Kd rfl ?_;refine ZO (k:=?_);intros)|(refine E.AW.one 21 Kd rfl ?_;refine ZO (k:=?_);intros)|(refine E.AW.one 22 Kd rfl ?_;refine ZO (k:=?_);intros)|(refine E.AW.one 23 Kd rfl ?_;refine ZO (k:=?_);intros)|(refine E.AW.one 24 Kd rfl ?_;refine ZO (k:=?_);intros)|(refine E.AW.one 25 Kd rfl ?_;refine ZO (k:=?_);intros)|(refine E.AW.one 26 Kd rfl ?_;refine ZO (k:=?_);intros)|(refine E.AW.one 27 Kd rfl ?_;refine ZO (k:=?_);intros)|(refine E.AW.one 28 Kd rfl ?_;refine ZO (k:=?_);intros)|(refine E.AW.one 29 Kd rfl ?_;refine ZO (k:=?_);intros)|(refine E.AW.one 30 Kd rfl ?_;refine ZO (k:=?_);intros)|(refine E.AW.one 31 Kd rfl ?_;refine ZO (k:=?_);intros)|(refine E.AW.one 32 Kd rfl ?_;refine ZO (k:=?_);intros)|(refine E.AW.one 33 Kd rfl ?_;refine ZO (k:=?_);intros)|(refine E.AW.one 34 Kd rfl ?_;refine ZO (k:=?_);intros)|(refine E.AW.one 35 Kd rfl ?_;refine ZO (k:=?_);intros)|(refine E.AW.one 36 Kd rfl ?_;refine ZO (k:=?_);intros)|(refine E.AW.one 37 Kd rfl ?_;refine ZO (k:=?_);intros)|(refine E.AW.one 38 Kd rfl ?_;refine ZO (k:=?_);intros)|(refine E.AW.one 39 Kd rfl ?_;refine ZO (k:=?_);intros)|(refine E.AW.one 40 Kd rfl ?_;refine ZO (k:=?_);intros)|(refine E.AW.one 41 Kd rfl ?_;refine ZO (k:=?_);intros)|(refine E.AW.one 42 Kd rfl ?_;refine ZO (k:=?_);intros)|(refine E.AW.one 43 Kd rfl ?_;refine ZO (k:=?_);intros)|(refine E.AW.one 44 Kd rfl ?_;refine ZO (k:=?_);intros)|(refine E.AW.one 45 Kd rfl ?_;refine ZO (k:=?_);intros)|(refine E.AW.one 46 Kd rfl ?_;refine ZO (k:=?_);intros)|(refine E.AW.one 47 Kd rfl ?_;refine ZO (k:=?_);intros)|refine E.AW.done Kd ?_|fail);repeat(rename_i Qa;first|exact Qe Qa Qk.k|revert Qa))|fail)(k:X):G:=h ⟨⟩ ⟨k⟩
def Zn{G X:Prop}(h:Mk->Wz X->G:=by first|(intro _ Qk;intros;(repeat(first|(show CW _ _ _ _ _ _ _ _;first|refine CW.seq ?_|refine CW.region ?_|refine CW.skip ?_|refine CW.ret ?_|refine CW.block ?_|refine CW.exit ?_|refine CW.label ?_|fail)|(show lJ _ _ _ _ _;first|refine iR ?_|refine Gd ?_|refine mS ?_|refine rL ?_|fail)|(show OW _ _ _ _ _ _ _ _ _;refine Zo (k:=?_);intros;first|(refine Zj (k:=?_);intros)|refine OW.nil ?_|fail)|(show blockK _ _ _ _ _;first|refine Vt ?_|refine yu ?_|refine pY ?_|refine LX rfl ?_|fail)|(show QW _ _ _ _ _ _ _ _ _;refine Zo (k:=?_);intros;refine QW.nil ?_)|(show E.AW _ _ _ _ _ _ _ _ _ _ _ _;refine Za (k:=?_);intros)|fail));(try(refine Zo (k:=?_);intros));repeat(rename_i Qa;first|exact Qe Qa Qk.k|revert Qa))|fail)(k:X):G:=h ⟨⟩ ⟨k⟩
def Zw{G X:Prop}(h:Mk->Wz X->G:=by first|(intro _ Qk;intros;(repeat(first|(show CW _ _ _ _ _ _ _ _;first|refine CW.seq ?_|refine CW.skip ?_|refine CW.ret ?_|refine CW.block ?_|refine CW.exit ?_|refine CW.label ?_|fail)|(show lJ _ _ _ _ _;first|refine iR ?_|refine Gd ?_|refine mS ?_|refine rL ?_|fail)|(show OW _ _ _ _ _ _ _ _ _;refine Zo (k:=?_);intros;first|(refine Zj (k:=?_);intros)|refine OW.nil ?_|fail)|(show blockK _ _ _ _ _;first|refine Vt ?_|refine yu ?_|refine pY ?_|refine LX rfl ?_|fail)|(show QW _ _ _ _ _ _ _ _ _;refine Zo (k:=?_);intros;refine QW.nil ?_)|(show E.AW _ _ _ _ _ _ _ _ _ _ _ _;refine Za (k:=?_);intros)|fail));(try(refine Zo (k:=?_);intros));repeat(rename_i Qa;first|exact Qe Qa Qk.k|revert Qa))|fail)(k:X):G:=h ⟨⟩ ⟨k⟩
def Zr{G X:Prop}(h:Mk->Wz X->G:=by first|(intro _ Qk;refine Zn (k:=?_);intros;(repeat((first|refine CW.Ma rfl ?_|refine CW.Re rfl ?_|(refine CW.cond rfl (fun hc=>?_) (fun hc=>?_);(focus first|(cases hc;done)|(simp only[bz,reduceCtorEq] at hc;done)|((try simp only[bz,reduceCtorEq] at hc);exfalso;first|assumption|contradiction|omega|fail)|fail);(try simp only[bz,reduceCtorEq] at hc);revert hc;intro _)|(refine CW.cond rfl (fun hc=>?_) (fun hc=>?_);rotate_left;(focus first|(cases hc;done)|(simp only[bz,reduceCtorEq] at hc;done)|((try simp only[bz,reduceCtorEq] at hc);exfalso;first|assumption|contradiction|omega|fail)|fail);(try simp only[bz,reduceCtorEq] at hc);revert hc;intro _)|fail);refine Zn (k:=?_);intros));repeat(rename_i Qa;first|exact Qe Qa Qk.k|revert Qa))|fail)(k:X):G:=h ⟨⟩ ⟨k⟩
def Zx{G X:Prop}(h:Mk->Wz X->G:=by first|(intro _ Qk;refine Zw (k:=?_);intros;(repeat((first|refine CW.Ma rfl ?_|refine CW.Re rfl ?_|(refine CW.cond rfl (fun hc=>?_) (fun hc=>?_);(focus first|(cases hc;done)|(simp only[bz,reduceCtorEq] at hc;done)|((try simp only[bz,reduceCtorEq] at hc);exfalso;first|assumption|contradiction|omega|fail)|fail);(try simp only[bz,reduceCtorEq] at hc);revert hc;intro _)|(refine CW.cond rfl (fun hc=>?_) (fun hc=>?_);rotate_left;(focus first|(cases hc;done)|(simp only[bz,reduceCtorEq] at hc;done)|((try simp only[bz,reduceCtorEq] at hc);exfalso;first|assumption|contradiction|omega|fail)|fail);(try simp only[bz,reduceCtorEq] at hc);revert hc;intro _)|fail);refine Zw (k:=?_);intros));repeat(rename_i Qa;first|exact Qe Qa Qk.k|revert Qa))|fail)(k:X):G:=h ⟨⟩ ⟨k⟩
def Zy{G X:Prop}(h:Mk->Wz X->G:=by first|(intro _ Qk;intros;refine CW.region ?_;refine Zx (k:=?_);intros;repeat(rename_i Qa;first|exact Qe Qa Qk.k|revert Qa))|fail)(k:X):G:=h ⟨⟩ ⟨k⟩
def Zc{G X Y:Prop}(k:X)(l:Y)(h:Mk->Wz X->Wz Y->G:=by first|(intro _ Qk Ql;refine Zr (k:=?_);intros;refine CW.cond rfl (fun hc=>?_) (fun hc=>?_);(focus ((try simp only[bz,reduceCtorEq] at hc);revert hc;intro _;repeat(rename_i Qa;first|exact Qe Qa Qk.k|revert Qa)));(try simp only[bz,reduceCtorEq] at hc);revert hc;intro _;repeat(rename_i Qa;first|exact Qe Qa Ql.k|revert Qa))|fail):G:=h ⟨⟩ ⟨k⟩ ⟨l⟩
def Zd{G X Y:Prop}(k:X)(l:Y)(h:Mk->Wz X->Wz Y->G:=by first|(intro _ Qk Ql;refine Zn (k:=?_);intros;refine CW.cond rfl (fun hc=>?_) (fun hc=>?_);(focus (first|(refine Qy (p:=True) Qk.k ?_;first|(cases hc;done)|(simp only[bz,reduceCtorEq] at hc;done)|((try simp only[bz,reduceCtorEq] at hc);first|assumption|contradiction|omega|fail)|fail)|((try simp only[bz,reduceCtorEq] at hc);revert hc;intro _;repeat(rename_i Qa;first|exact Qe Qa Qk.k|revert Qa))|fail));first|(refine Qy (p:=True) Ql.k ?_;first|(cases hc;done)|(simp only[bz,reduceCtorEq] at hc;done)|((try simp only[bz,reduceCtorEq] at hc);first|assumption|contradiction|omega|fail)|fail)|((try simp only[bz,reduceCtorEq] at hc);revert hc;intro _;repeat(rename_i Qa;first|exact Qe Qa Ql.k|revert Qa))|fail)|fail):G:=h ⟨⟩ ⟨k⟩ ⟨l⟩
def Zs{G X Y:Prop}(k:X)(l:Y)(h:Mk->Wz X->Wz Y->G:=by first|(intro _ Qk Ql;refine Zr (k:=?_);intros;(first|refine OW.spl rfl rfl rfl rfl (fun hc=>?_) (fun hc=>?_)|refine QW.spl rfl rfl rfl rfl (fun hc=>?_) (fun hc=>?_)|fail);(focus ((try simp only[bz,reduceCtorEq] at hc);revert hc;intro _;repeat(rename_i Qa;first|exact Qe Qa Qk.k|revert Qa)));(try simp only[bz,reduceCtorEq] at hc);revert hc;intro _;repeat(rename_i Qa;first|exact Qe Qa Ql.k|revert Qa))|fail):G:=h ⟨⟩ ⟨k⟩ ⟨l⟩
def Zt{G X Y:Prop}(k:X)(l:Y)(h:Mk->Wz X->Wz Y->G:=by first|(intro _ Qk Ql;refine Zo (k:=?_);intros;(first|refine OW.spl rfl rfl rfl rfl (fun hc=>?_) (fun hc=>?_)|refine QW.spl rfl rfl rfl rfl (fun hc=>?_) (fun hc=>?_)|fail);(focus (first|(refine Qy (p:=True) Qk.k ?_;first|(cases hc;done)|(simp only[bz,reduceCtorEq] at hc;done)|((try simp only[bz,reduceCtorEq] at hc);first|assumption|contradiction|omega|fail)|fail)|((try simp only[bz,reduceCtorEq] at hc);revert hc;intro _;repeat(rename_i Qa;first|exact Qe Qa Qk.k|revert Qa))|fail));first|(refine Qy (p:=True) Ql.k ?_;first|(cases hc;done)|(simp only[bz,reduceCtorEq] at hc;done)|((try simp only[bz,reduceCtorEq] at hc);first|assumption|contradiction|omega|fail)|fail)|((try simp only[bz,reduceCtorEq] at hc);revert hc;intro _;repeat(rename_i Qa;first|exact Qe Qa Ql.k|revert Qa))|fail)|fail):G:=h ⟨⟩ ⟨k⟩ ⟨l⟩
def Zu{G X Y:Prop}(k:X)(l:Y)(h:Mk->Wz X->Wz Y->G:=by first|(intro _ Qk Ql;refine Zr (k:=?_);intros;(first|refine OW.spl rfl rfl rfl rfl (fun hc=>?_) (fun hc=>?_)|refine QW.spl rfl rfl rfl rfl (fun hc=>?_) (fun hc=>?_)|fail);(focus (first|(refine Qy (p:=True) Qk.k ?_;first|(cases hc;done)|(simp only[bz,reduceCtorEq] at hc;done)|((try simp only[bz,reduceCtorEq] at hc);first|assumption|contradiction|omega|fail)|fail)|((try simp only[bz,reduceCtorEq] at hc);revert hc;intro _;repeat(rename_i Qa;first|exact Qe Qa Qk.k|revert Qa))|fail));first|(refine Qy (p:=True) Ql.k ?_;first|(cases hc;done)|(simp only[bz,reduceCtorEq] at hc;done)|((try simp only[bz,reduceCtorEq] at hc);first|assumption|contradiction|omega|fail)|fail)|((try simp only[bz,reduceCtorEq] at hc);revert hc;intro _;repeat(rename_i Qa;first|exact Qe Qa Ql.k|revert Qa))|fail)|fail):G:=h ⟨⟩ ⟨k⟩ ⟨l⟩
def Ca{p:Prop}(h:p:=by apply Qc.q<;>(first|assumption|exact fun k hk=>(hb k hk).1|omega|(refine hw.rd ?_;assumption)|(refine hw.lN ?_;assumption)|(refine hw.oP ?_;assumption)|(refine hw.sy ?_;assumption)|(refine hw.HX ?_;assumption)|(refine hw.sH ?_ hb;assumption)|(refine hw.vJ ?_ hb;assumption)|(refine hw.vD ?_ hb;assumption)|exact⟨hw.j0 (i:=2) rfl 0 rfl,hw.j0 (i:=2) rfl 1 rfl⟩|exact hw.aL (i:=0) rfl|exact hw.aL (i:=1) rfl|exact hw.aL (i:=2) rfl|exact hw.aL (i:=3) rfl|exact hw.aL (i:=4) rfl|exact hw.aL (i:=5) rfl|exact hw.aL (i:=6) rfl|exact hw.aL (i:=7) rfl|exact hw.aL (i:=8) rfl|exact hw.bh (i:=0) rfl|exact hw.bh (i:=1) rfl|exact hw.bh (i:=2) rfl|exact hw.bh (i:=3) rfl|exact hw.bh (i:=4) rfl|exact hw.bh (i:=5) rfl|exact hw.bh (i:=6) rfl|exact hw.gM (i:=0) rfl|exact hw.gM (i:=1) rfl|exact hw.gM (i:=2) rfl|exact hw.gM (i:=3) rfl|exact hw.gM (i:=4) rfl|exact hw.dq (i:=0) rfl|exact hw.dq (i:=1) rfl|exact hw.dq (i:=2) rfl|exact hw.dq (i:=3) rfl|exact hw.dq (i:=4) rfl|exact hw.UF (i:=0) rfl|exact hw.UF (i:=1) rfl|exact hw.UF (i:=2) rfl|exact hw.UF (i:=3) rfl|exact hw.UF (i:=4) rfl|exact hw.iY (i:=0) rfl|exact hw.iY (i:=1) rfl|exact hw.iY (i:=2) rfl|exact hw.iY (i:=3) rfl|exact hw.iY (i:=4) rfl|exact uO (i:=0) rfl w hw|exact KZ (i:=0) rfl w hw|(refine hw.fD ?_ hb;assumption)|(simp only[aF,bI,gL] at*;omega)|((try simp only[aF,eS]);omega)|(simp;omega)|(simp;done)|decide|fail)):p:=h
structure Cq(p:Prop):Prop where
 q:p
def Ex1{α:Sort u}{p:α->Prop}{G:Prop}(h:∃x,p x)(k:∀x,p x->G):G:=h.elim k
def An1{p q G:Prop}(h:p/\q)(k:p->q->G):G:=k h.1 h.2
def Zg{p G X:Prop}(q:p)(k:X)(h:Mk->Cq p->Wz X->G:=by first|(intro _ Qc Qk;refine Zr (k:=?_);intros;refine OW.call Mx rfl rfl rfl rfl rfl rfl _ (fun w hw=>Ca) ?_;intro Qv Qw Qh;(repeat(refine Ex1 Qh ?_;clear Qh;intro _ Qh));(repeat first|(refine An1 Qh ?_;clear Qh;intro Qi Qh;subst Qv;revert Qh;intro Qh)|(refine An1 Qh ?_;clear Qh;intro Qi Qh;subst Qw;revert Qh;intro Qh)|(refine An1 Qh ?_;clear Qh;intro _ Qh)|fail);(first|subst Qv|subst Qw|(revert Qh;intro _)|skip);(try(revert Qv;intro _));(try(revert Qw;intro _));clear Qc;repeat(rename_i Qa;first|exact Qe Qa Qk.k|revert Qa))|fail):G:=h ⟨⟩ ⟨q⟩ ⟨k⟩
def Zh{p G X:Prop}(q:p)(k:X)(h:Mk->Cq p->Wz X->G:=by first|(intro _ Qc Qk;refine Zr (k:=?_);intros;(first|refine OW.aU Mx rfl rfl rfl rfl rfl rfl _ 0 rfl (fun w S hw hs hb hc=>Ca) ?_|refine OW.aU Mx rfl rfl rfl rfl rfl rfl _ 1 rfl (fun w S hw hs hb hc=>Ca) ?_|refine OW.aU Mx rfl rfl rfl rfl rfl rfl _ 2 rfl (fun w S hw hs hb hc=>Ca) ?_|refine OW.aU Mx rfl rfl rfl rfl rfl rfl _ 3 rfl (fun w S hw hs hb hc=>Ca) ?_|refine OW.aU Mx rfl rfl rfl rfl rfl rfl _ 4 rfl (fun w S hw hs hb hc=>Ca) ?_|refine OW.aU Mx rfl rfl rfl rfl rfl rfl _ 5 rfl (fun w S hw hs hb hc=>Ca) ?_|fail);intro Qv Qw Qh;(repeat(refine Ex1 Qh ?_;clear Qh;intro _ Qh));(repeat first|(refine An1 Qh ?_;clear Qh;intro Qi Qh;subst Qv;revert Qh;intro Qh)|(refine An1 Qh ?_;clear Qh;intro Qi Qh;subst Qw;revert Qh;intro Qh)|(refine An1 Qh ?_;clear Qh;intro _ Qh)|fail);(first|subst Qv|subst Qw|(revert Qh;intro _)|skip);(try(revert Qv;intro _));(try(revert Qw;intro _));clear Qc;repeat(rename_i Qa;first|exact Qe Qa Qk.k|revert Qa))|fail):G:=h ⟨⟩ ⟨q⟩ ⟨k⟩
def Zk{G X:Prop}(k:X)(h:Mk->Wz X->G:=by first|(intro _ Qk;refine Zr (k:=?_);intros;(first|refine KR.one [] rfl rfl rfl ?_|refine KR.two [] rfl rfl rfl rfl ?_|refine KR.three [] rfl rfl rfl rfl rfl ?_|refine(KR.zero [] rfl rfl ?_).1|refine(KR.zero [] rfl rfl ?_).2|refine KR.we [] rfl (rv.cell Ix rfl (dU 0 rfl) rfl) rfl ?_|refine KR.we [] rfl (rv.cell Ix rfl (dU 1 rfl) rfl) rfl ?_|refine KR.we [] rfl (rv.cell Ix rfl (dU 2 rfl) rfl) rfl ?_|refine KR.we [] rfl (rv.cell Ix rfl (dU 3 rfl) rfl) rfl ?_|refine KR.we [] rfl (rv.fW Nx rfl (dU 0 rfl) rfl) rfl ?_|refine KR.we [] rfl (rv.fW Nx rfl (dU 1 rfl) rfl) rfl ?_|refine KR.we [] rfl (rv.fW Nx rfl (dU 2 rfl) rfl) rfl ?_|refine KR.kR [] rfl (rv.cell Ix rfl (dU 0 rfl) rfl) rfl rfl ?_|refine KR.kR [] rfl (rv.cell Ix rfl (dU 1 rfl) rfl) rfl rfl ?_|refine KR.kR [] rfl (rv.cell Ix rfl (dU 2 rfl) rfl) rfl rfl ?_|refine KR.kR [] rfl (rv.cell Ix rfl (dU 3 rfl) rfl) rfl rfl ?_|refine KR.kR [] rfl (rv.fW Nx rfl (dU 0 rfl) rfl) rfl rfl ?_|refine KR.kR [] rfl (rv.fW Nx rfl (dU 1 rfl) rfl) rfl rfl ?_|refine KR.kR [] rfl (rv.fW Nx rfl (dU 2 rfl) rfl) rfl rfl ?_|refine KR.kR [] rfl rfl (rv.cell Ix rfl (dU 0 rfl) rfl) rfl ?_|refine KR.kR [] rfl rfl (rv.cell Ix rfl (dU 1 rfl) rfl) rfl ?_|refine KR.kR [] rfl rfl (rv.cell Ix rfl (dU 2 rfl) rfl) rfl ?_|refine KR.kR [] rfl rfl (rv.cell Ix rfl (dU 3 rfl) rfl) rfl ?_|refine KR.kR [] rfl rfl (rv.fW Nx rfl (dU 0 rfl) rfl) rfl ?_|refine KR.kR [] rfl rfl (rv.fW Nx rfl (dU 1 rfl) rfl) rfl ?_|refine KR.kR [] rfl rfl (rv.fW Nx rfl (dU 2 rfl) rfl) rfl ?_|refine KR.wa [] rfl (rv.cell Ix rfl (dU 0 rfl) rfl) rfl rfl rfl ?_|refine KR.wa [] rfl (rv.cell Ix rfl (dU 1 rfl) rfl) rfl rfl rfl ?_|refine KR.wa [] rfl (rv.cell Ix rfl (dU 2 rfl) rfl) rfl rfl rfl ?_|refine KR.wa [] rfl (rv.cell Ix rfl (dU 3 rfl) rfl) rfl rfl rfl ?_|refine KR.wa [] rfl (rv.fW Nx rfl (dU 0 rfl) rfl) rfl rfl rfl ?_|refine KR.wa [] rfl (rv.fW Nx rfl (dU 1 rfl) rfl) rfl rfl rfl ?_|refine KR.wa [] rfl (rv.fW Nx rfl (dU 2 rfl) rfl) rfl rfl rfl ?_|fail);repeat(rename_i Qa;first|exact Qe Qa Qk.k|revert Qa))|fail):G:=h ⟨⟩ ⟨k⟩
def Zl{G X:Prop}(k:X)(h:Mk->Wz X->G:=by first|(intro _ Qk;refine Zr (k:=?_);intros;(first|refine KR.one [0] rfl rfl rfl ?_|refine KR.two [0] rfl rfl rfl rfl ?_|refine KR.three [0] rfl rfl rfl rfl rfl ?_|refine(KR.zero [0] rfl rfl ?_).1|refine(KR.zero [0] rfl rfl ?_).2|refine KR.we [0] rfl (rv.cell Ix rfl (dU 0 rfl) rfl) rfl ?_|refine KR.we [0] rfl (rv.cell Ix rfl (dU 1 rfl) rfl) rfl ?_|refine KR.we [0] rfl (rv.cell Ix rfl (dU 2 rfl) rfl) rfl ?_|refine KR.we [0] rfl (rv.cell Ix rfl (dU 3 rfl) rfl) rfl ?_|refine KR.we [0] rfl (rv.fW Nx rfl (dU 0 rfl) rfl) rfl ?_|refine KR.we [0] rfl (rv.fW Nx rfl (dU 1 rfl) rfl) rfl ?_|refine KR.we [0] rfl (rv.fW Nx rfl (dU 2 rfl) rfl) rfl ?_|refine KR.kR [0] rfl (rv.cell Ix rfl (dU 0 rfl) rfl) rfl rfl ?_|refine KR.kR [0] rfl (rv.cell Ix rfl (dU 1 rfl) rfl) rfl rfl ?_|refine KR.kR [0] rfl (rv.cell Ix rfl (dU 2 rfl) rfl) rfl rfl ?_|refine KR.kR [0] rfl (rv.cell Ix rfl (dU 3 rfl) rfl) rfl rfl ?_|refine KR.kR [0] rfl (rv.fW Nx rfl (dU 0 rfl) rfl) rfl rfl ?_|refine KR.kR [0] rfl (rv.fW Nx rfl (dU 1 rfl) rfl) rfl rfl ?_|refine KR.kR [0] rfl (rv.fW Nx rfl (dU 2 rfl) rfl) rfl rfl ?_|refine KR.kR [0] rfl rfl (rv.cell Ix rfl (dU 0 rfl) rfl) rfl ?_|refine KR.kR [0] rfl rfl (rv.cell Ix rfl (dU 1 rfl) rfl) rfl ?_|refine KR.kR [0] rfl rfl (rv.cell Ix rfl (dU 2 rfl) rfl) rfl ?_|refine KR.kR [0] rfl rfl (rv.cell Ix rfl (dU 3 rfl) rfl) rfl ?_|refine KR.kR [0] rfl rfl (rv.fW Nx rfl (dU 0 rfl) rfl) rfl ?_|refine KR.kR [0] rfl rfl (rv.fW Nx rfl (dU 1 rfl) rfl) rfl ?_|refine KR.kR [0] rfl rfl (rv.fW Nx rfl (dU 2 rfl) rfl) rfl ?_|refine KR.wa [0] rfl (rv.cell Ix rfl (dU 0 rfl) rfl) rfl rfl rfl ?_|refine KR.wa [0] rfl (rv.cell Ix rfl (dU 1 rfl) rfl) rfl rfl rfl ?_|refine KR.wa [0] rfl (rv.cell Ix rfl (dU 2 rfl) rfl) rfl rfl rfl ?_|refine KR.wa [0] rfl (rv.cell Ix rfl (dU 3 rfl) rfl) rfl rfl rfl ?_|refine KR.wa [0] rfl (rv.fW Nx rfl (dU 0 rfl) rfl) rfl rfl rfl ?_|refine KR.wa [0] rfl (rv.fW Nx rfl (dU 1 rfl) rfl) rfl rfl rfl ?_|refine KR.wa [0] rfl (rv.fW Nx rfl (dU 2 rfl) rfl) rfl rfl rfl ?_|fail);repeat(rename_i Qa;first|exact Qe Qa Qk.k|revert Qa))|fail):G:=h ⟨⟩ ⟨k⟩
def Z4t{G X:Prop}(k:X)(h:Wz X->G:=by intro Qk;refine Zr (k:=?_);exact Qk.k):G:=h ⟨k⟩
def Z4u{G X:Prop}(k:X)(h:Wz X->G:=by intro Qk;refine Zx (k:=?_);exact Qk.k):G:=h ⟨k⟩
def Z4v{G X:Prop}(k:X)(h:Wz X->G:=by intro Qk;refine Za (k:=?_);exact Qk.k):G:=h ⟨k⟩
def Z4w{G X:Prop}(k:X)(h:Wz X->G:=by intro Qk;refine Zj (k:=?_);exact Qk.k):G:=h ⟨k⟩
def Z4x{G X:Prop}(k:X)(h:Wz X->G:=by intro Qk;refine Z1 (k:=?_);exact Qk.k):G:=h ⟨k⟩
def Z4y{G X:Prop}(k:X)(h:Wz X->G:=by intro Qk;refine Zy (k:=?_);exact Qk.k):G:=h ⟨k⟩
def Z4z{G X:Prop}(k:X)(h:Wz X->G:=by intro Qk;refine Z3 (k:=?_);exact Qk.k):G:=h ⟨k⟩
def Z4A{G X:Prop}(k:X)(h:Wz X->G:=by intro Qk;refine ZJ (k:=?_);exact Qk.k):G:=h ⟨k⟩
def Z4B{G X:Prop}(k:X)(h:Wz X->G:=by intro Qk;refine Zb (k:=?_);exact Qk.k):G:=h ⟨k⟩
def Z4C{G X:Prop}(k:X)(h:Wz X->G:=by intro Qk;refine Z2w (k:=?_);exact Qk.k):G:=h ⟨k⟩
def Z4D{G X:Prop}(k:X)(h:Wz X->G:=by intro Qk;refine ZZ (k:=?_);exact Qk.k):G:=h ⟨k⟩
def Z4E{G X:Prop}(k:X)(h:Wz X->G:=by intro Qk;refine Z1t (k:=?_);exact Qk.k):G:=h ⟨k⟩
def Z4F{G X:Prop}(k:X)(h:Wz X->G:=by intro Qk;refine ZN (k:=?_);exact Qk.k):G:=h ⟨k⟩
def Z4G{G X:Prop}(k:X)(h:Wz X->G:=by intro Qk;refine ZS (k:=?_);exact Qk.k):G:=h ⟨k⟩
def Z4H{G X:Prop}(k:X)(h:Wz X->G:=by intro Qk;refine ZT (k:=?_);exact Qk.k):G:=h ⟨k⟩
def Z4I{G X:Prop}(k:X)(h:Wz X->G:=by intro Qk;refine Ze (k:=?_);exact Qk.k):G:=h ⟨k⟩
def Z4J{G X:Prop}(k:X)(h:Wz X->G:=by intro Qk;refine Zz (k:=?_);exact Qk.k):G:=h ⟨k⟩
def Z4K{G X:Prop}(k:X)(h:Wz X->G:=by intro Qk;refine ZL (k:=?_);exact Qk.k):G:=h ⟨k⟩
def Z4L{G X:Prop}(k:X)(h:Wz X->G:=by intro Qk;refine Zo (k:=?_);exact Qk.k):G:=h ⟨k⟩
def Z4M{G X:Prop}(k:X)(h:Wz X->G:=by intro Qk;refine Z1V (k:=?_);exact Qk.k):G:=h ⟨k⟩
def Z4N{G X:Prop}(k:X)(h:Wz X->G:=by intro Qk;refine Z15 (k:=?_);exact Qk.k):G:=h ⟨k⟩
def Z4O{G X:Prop}(k:X)(h:Wz X->G:=by intro Qk;refine Z1a (k:=?_);exact Qk.k):G:=h ⟨k⟩
def Z4P{G X:Prop}(k:X)(h:Wz X->G:=by intro Qk;refine ZA (k:=?_);exact Qk.k):G:=h ⟨k⟩
def Z4Q{G X:Prop}(k:X)(h:Wz X->G:=by intro Qk;refine Z12 (k:=?_);exact Qk.k):G:=h ⟨k⟩
def Z4R{G X:Prop}(k:X)(h:Wz X->G:=by intro Qk;refine Z1c (k:=?_);exact Qk.k):G:=h ⟨k⟩
def Z4S{G X:Prop}(k:X)(h:Wz X->G:=by intro Qk;refine Z4 (k:=?_);exact Qk.k):G:=h ⟨k⟩
def laidOut:laidOutB prog=true:=K0
end
end Go.Proofs.YtcgecopggfjojaaGreatDoor
