/- Rules for single operations over the logic of heaps. Holds for any program whose type tables are as the classes say. -/
import Derived.Test.YtlgpgjdggilkgaaGreatDoorEtaa
import Derived.Maps.AppendAt
set_option linter.all false
namespace Go.V
class L6 (P:Program) (ac:Nat):Prop where
 run:∀w,(isAgg ac).run P w=.ok false w
 size:(P.info? ac).map (·.size)=some 1
class NT (P:Program) (ac:Nat) (n:outParam Nat):Prop where
 run:∀w,(isAgg ac).run P w=.ok true w
 size:(P.info? ac).map (·.size)=some n
class M7 (P:Program) (ac:Nat) (η sz VL:outParam Nat) (z:outParam (τ)):Prop where
 under:P.underlying ac=some (.slice η)
 info:(P.info? η).map (λi=>(i.zero.map (·.cells.toList),i.size,i.bytes))=some (some z,sz,VL)
 TJ:z.length=sz
 pos:0<sz
class QX (P:Program) (ac:Nat) (k:outParam IntKind):Prop where
 under:P.underlying ac=some (.int k)
class UE (P:Program) (ac:Nat):Prop where
 under:∃e,P.underlying ac=some (.pointer e)
class UF (P:Program) (ac:Nat):Prop where
 under:P.underlying ac=some .string
class cM (P:Program) (ac f:Nat) (off:outParam Nat):Prop where
 run:∃fs fd i,P.underlying ac=some (.struct fs)/\fs[f]? = some fd/\fd.offset=off/\P.info? fd.type=some i/\i.size≠0
def CW(P:Program)(f:Nat):TypeDesc->Option (Nat×Option Nat)
 | .struct fs=>(fs[f]?).map λfd=>(fd.offset,(P.info? fd.type).map (·.size))
 | _=>none
theorem cM.of{P:Program}{ac f off:Nat}(sz:Nat)(h:(P.underlying ac).map (CW P f)=some (some (off,some (sz+1)))):cM P ac f off:=by
 cases hu:P.underlying ac with
 | none=>rw[hu] at h;cases h
 | some Μ =>
  rw[hu] at h;cases Μ<;>simp[CW] at h;rename_i fs;obtain⟨fd,K,T,i,h3,h4⟩:=h;exact⟨fs,fd,i,hu,K,T,h3,by omega⟩
class aae (P:Program) (ac:Nat) (Ξ η:outParam Nat):Prop where
 under:P.underlying ac=some (.map Ξ η)
def sP(P:Program):TypeDesc->Option (List (Nat×Option Nat))
 | .struct fs=>some (fs.toList.map λfd=>(fd.offset,(P.info? fd.type).map (·.size)))
 | _=>none
class OW (P:Program) (ac:Nat) (pl:outParam (List (Nat×Nat))):Prop where
 eq:(P.underlying ac).map (sP P)=some (some (pl.map λp=>(p.1,some p.2)))
def L6.Re{P:Program}{ac:Nat}[h:L6 P ac](w:World):(sizeOf ac).run P w=.ok 1 w:=by
 have K:=h.size;cases hi:P.info? ac with
 | none=>rw[hi] at K;cases K
 | some i=>rw[hi] at K;simp at K;simp[sizeOf,typeInfo,hi,K]
def NT.Re{P:Program}{ac n:Nat}[h:NT P ac n](w:World):(sizeOf ac).run P w=.ok n w:=by
 have K:=h.size;cases hi:P.info? ac with
 | none=>rw[hi] at K;cases K
 | some i=>rw[hi] at K;simp at K;simp[sizeOf,typeInfo,hi,K]
def M7.Β{P:Program}{ac η sz VL:Nat}{z:τ}(h:M7 P ac η sz VL z):∃i z0,P.info? η=some i/\i.zero=some z0/\z0.cells.toList=z/\i.size=sz/\i.bytes=VL:=by
 have K:=h.info;cases hi:P.info? η with
 | none=>rw[hi] at K;cases K
 | some i =>
  rw[hi] at K;simp at K;obtain⟨⟨z0,hz,B⟩,T,h3⟩:=K;exact⟨i,z0,rfl,hz,B,T,h3⟩
class RN {α:Type} (Ε:α->τ):Prop where
 one:∀x,∀u∈Ε x,u.oneCell' = true
def obj(b ac:Nat)(cs:τ):HP:=jC b (.cells cs.toArray ac (0,0))
def Ω{α:Type}(Ε:α->τ)(sz η:Nat)(ad:OA)(cap:Nat)(I:List α):HP:=λ_ h =>
 (∀x∈I,(Ε x).length=sz)/\I.length<=cap/\cap<=maxLen /\
 ((ad=none/\cap=0)\/∃g B,ad=some ⟨g,0,none⟩/\h g=some (.cells B η (0,0))/\B.size=cap*sz/\B.toList.take (I.length*sz)=I.flatMap Ε)
def ξ{α:Type}(Ε:α->τ)(sz:Nat)(ad:OA)(I:List α):HP:=λι _ =>
 (∀x∈I,(Ε x).length=sz) /\
 (I=[]\/∃g off B η fz,ad=some ⟨g,off,none⟩/\ι g=some (.cells B η fz)/\∀i v,(I.flatMap Ε)[i]? = some v->B[off+i]? = some v)
def Sx{α:Type}(w:World)(Ε:α->τ)(sz:Nat)(ad:OA)(I:List α):Prop :=
 (∀x∈I,(Ε x).length=sz) /\
 (I=[]\/∃a,ad=some a/\∀i v,(I.flatMap Ε)[i]? = some v->w.cell? (a.add i)=some v)
class PO (L:Η) (b:Nat) (ac:outParam Nat) (cs:outParam (τ)) (R:outParam (Η)):Prop where
 perm:L.Perm (obj b ac cs::R)
instance (L:Η)(b ac:Nat)(cs:τ):PO (obj b ac cs::L) b ac cs L:=⟨List.Perm.refl _⟩
instance (Ο:HP)(L:Η)(b ac:Nat)(cs:τ)(R:Η)[h:PO L b ac cs R]:PO (Ο::L) b ac cs (Ο::R):=⟨(h.perm.cons Ο).trans (List.Perm.swap _ _ _)⟩
class Se (L:Η) (ad:OA) (α:outParam Type) (Ε:outParam (α->τ)) (sz η:outParam Nat) (cap:outParam Nat) (I:outParam (List α)) (R:outParam (Η)):Prop where
 perm:L.Perm (Ω Ε sz η ad cap I::R)
instance {α:Type}(L:Η)(Ε:α->τ)(sz η:Nat)(ad:OA)(cap:Nat)(I:List α):Se (Ω Ε sz η ad cap I::L) ad α Ε sz η cap I L:=⟨List.Perm.refl _⟩
instance {α:Type}(Ο:HP)(L:Η)(Ε:α->τ)(sz η:Nat)(ad:OA)(cap:Nat)(I:List α)(R:Η)[h:Se L ad α Ε sz η cap I R]:Se (Ο::L) ad α Ε sz η cap I (Ο::R):=⟨(h.perm.cons Ο).trans (List.Perm.swap _ _ _)⟩
class F2 (L:Η) (ad:OA) (α:outParam Type) (Ε:outParam (α->τ)) (sz:outParam Nat) (I:outParam (List α)):Prop where
 rd:∀θ R w,Sat θ (L++R) w->Sx w Ε sz ad I
def qm(a:Addr):a.add 0=a:=by simp[Addr.add]
def fT(g i:Nat):(⟨g,0,none⟩:Addr).add i=⟨g,i,none⟩:=by unfold Addr.add;split<;>simp_all
theorem iR(g o i:Nat):(⟨g,o,none⟩:Addr).add i=⟨g,o+i,none⟩:=by unfold Addr.add;split<;>simp_all
def eh{w:World}{g:Nat}{B:Array Value}{η:TypeId}{fz:Nat×Nat}(h:w.heap[g]? = some (.cells B η fz))(i:Nat):w.cell? ⟨g,i,none⟩=B[i]?:=by simp[World.cell?,h]
def Sat.QY{α:Type}{θ:Th}{Ε:α->τ}{sz η:Nat}{ad:OA}{cap:Nat}{I:List α}{L:Η}{w:World}(s:Sat θ (Ω Ε sz η ad cap I::L) w) :
  (∀x∈I,(Ε x).length=sz)/\I.length<=cap/\cap<=maxLen /\
  ((ad=none/\cap=0)\/∃g B,ad=some ⟨g,0,none⟩/\B.size=cap*sz/\B.toList.take (I.length*sz)=I.flatMap Ε/\Sat θ (jC g (.cells B η (0,0))::L) w):=by
 obtain⟨ok,ι,h,a,b1,c,G6,E4,D4,d1,d2,d3,d4,⟨e1,e2,e3,e4⟩,d6⟩:=s;refine⟨e1,e2,e3,?_⟩;rcases e4 with e4|⟨g,B,f1,f2,f3,f4⟩
 .exact .inl e4
 .exact .inr ⟨g,B,f1,f3,f4,ok,ι,h,a,b1,c,G6,E4,D4,d1,d2,d3,d4,f2,d6⟩
def Sat.RO{α:Type}{θ:Th}{Ε:α->τ}{sz η:Nat}{g cap:Nat}{B:Array Value}{I:List α}{L:Η}{w:World}(s:Sat θ (jC g (.cells B η (0,0))::L) w)
  (K:∀x∈I,(Ε x).length=sz) (T:I.length<=cap) (h3:cap<=maxLen) (h4:B.size=cap*sz) (h5:B.toList.take (I.length*sz)=I.flatMap Ε):Sat θ (Ω Ε sz η (some ⟨g,0,none⟩) cap I::L) w:=by
 obtain⟨ok,ι,h,a,b1,c,G6,E4,D4,d1,d2,d3,d4,d5,d6⟩:=s;exact⟨ok,ι,h,a,b1,c,G6,E4,D4,d1,d2,d3,d4,⟨K,T,h3,.inr ⟨g,B,rfl,d5,h4,h5⟩⟩,d6⟩
def Sat.d7{α:Type}{θ:Th}(Ε:α->τ)(sz η:Nat){L:Η}{w:World}(s:Sat θ L w):Sat θ (Ω Ε sz η none 0 []::L) w:=by
 obtain⟨ok,ι,h',a,b1,c,Μ⟩:=s;exact⟨ok,ι,h',a,b1,c,Hp.emp,Hp.emp,h',Hp.a8 _,Hp.c7 _,Hp.a8 _,Hp.sub.refl _,⟨by simp,by simp,by simp,.inl ⟨rfl,rfl⟩⟩,Μ⟩
def db{α:Type}{Ε:α->τ}{sz:Nat}{I:List α}(h:∀x∈I,(Ε x).length=sz):(I.flatMap Ε).length=I.length*sz:=by
 induction I with
 | nil=>simp
 | cons x I ih =>
  simp only[List.flatMap_cons,List.length_append,List.length_cons,ih (λy Y=>h y (List.mem_cons_of_mem _ Y)),h x List.mem_cons_self,Nat.add_mul];omega
def nz{α:Type}[Inhabited α]{Ε:α->τ}{sz:Nat}{I:List α}(h:∀x∈I,(Ε x).length=sz){j o:Nat}(hj:j<I.length)(ho:o<sz):(I.flatMap Ε)[j*sz+o]? = (Ε I[j]!)[o]?:=by
 induction I generalizing j with
 | nil=>simp at hj
 | cons x I ih =>
  have O:=h x List.mem_cons_self;have hr:=λy Y=>h y (List.mem_cons_of_mem x Y);cases j with
  | zero =>
   simp only[List.flatMap_cons,Nat.zero_mul,Nat.zero_add];rw[List.getElem?_append_left (by omega)];simp
  | succ j =>
   simp only[List.flatMap_cons];rw[List.getElem?_append_right (by rw[O,Nat.add_mul];omega),O,show(j+1)*sz+o - sz=j*sz+o by rw[Nat.add_mul];omega,ih hr (by simpa using hj)];simp
def Sat.Wg{α:Type}{θ:Th}{Ε:α->τ}{sz η:Nat}{ad:OA}{cap:Nat}{I:List α}{L:Η}{w:World}(s:Sat θ (Ω Ε sz η ad cap I::L) w):Sx w Ε sz ad I:=by
 obtain⟨K,T,h3,h4⟩:=s.QY;refine⟨K,?_⟩;rcases h4 with⟨rfl,rfl⟩|⟨g,B,rfl,f1,f2,f3⟩
 .exact .inl (List.eq_nil_of_length_eq_zero (by omega))
 .refine .inr ⟨_,rfl,λi v hv=>?_⟩;rw[fT,eh f3.Nr];rw[<-f2,List.getElem?_take] at hv;split at hv
  .simpa using hv
  .cases hv
def Sat.Wh{α:Type}{θ:Th}{Ε:α->τ}{sz:Nat}{ad:OA}{I:List α}{L:Η}{w:World}(s:Sat θ (ξ Ε sz ad I::L) w):Sx w Ε sz ad I:=by
 obtain⟨ok,ι,h,a,b1,c,G6,E4,D4,d1,d2,d3,d4,⟨e1,e2⟩,d6⟩:=s;refine⟨e1,?_⟩;rcases e2 with e2|⟨g,off,B,η,fz,rfl,f1,f2⟩
 .exact .inl e2
 .refine .inr ⟨_,rfl,λi v hv=>?_⟩;have hb:w.heap[g]? = some (.cells B η fz):=b1 g _ (d1 g _ f1);rw[iR,eh hb];exact f2 i v hv
instance {α:Type}(L:Η)(Ε:α->τ)(sz η:Nat)(ad:OA)(cap:Nat)(I:List α):F2 (Ω Ε sz η ad cap I::L) ad α Ε sz I:=⟨λ_ _ _ s=>Sat.Wg s⟩
instance {α:Type}(L:Η)(Ε:α->τ)(sz:Nat)(ad:OA)(I:List α):F2 (ξ Ε sz ad I::L) ad α Ε sz I:=⟨λ_ _ _ s=>Sat.Wh s⟩
instance {α:Type}(Ο:HP)(L:Η)(Ε:α->τ)(sz:Nat)(ad:OA)(I:List α)[h:F2 L ad α Ε sz I]:F2 (Ο::L) ad α Ε sz I:=⟨λθ R w s=>h.rd θ R w s.tail⟩
def Sat.N9{α:Type}{θ:Th}{Ε:α->τ}{sz η:Nat}{ad:OA}{cap:Nat}{I:List α}{L:Η}{w:World}(s:Sat θ (Ω Ε sz η ad cap I::L) w):Sat θ (ξ Ε sz ad I::L) w:=by
 obtain⟨K,T,h3,h4⟩:=s.QY;rcases h4 with⟨rfl,rfl⟩|⟨g,B,rfl,f1,f2,f3⟩
 .have O:I=[]:=List.eq_nil_of_length_eq_zero (by omega);subst O;obtain⟨ok,ι,h',a,b1,c,Μ⟩:=s.tail;exact⟨ok,ι,h',a,b1,c,Hp.emp,Hp.emp,h',Hp.a8 _,Hp.c7 _,Hp.a8 _,Hp.sub.refl _,⟨by simp,.inl rfl⟩,Μ⟩
 .obtain⟨ok,ι,h,a,b1,c,G6,E4,D4,d1,d2,d3,d4,d5,d6⟩:=f3.freeze;refine⟨ok,ι,h,a,b1,c,G6,E4,D4,d1,d2,d3,d4,⟨K,.inr ⟨g,0,B,η,(0,0),rfl,d5,?_⟩⟩,d6⟩;intro i v hv;rw[<-f2,List.getElem?_take] at hv;split at hv
  .simpa using hv
  .cases hv
def lF{α:Type}(Ε:α->τ)(sz:Nat)(ad:OA)(I:List α):VJ (ξ Ε sz ad I):=λ_ _ h=>h
def Pb(ad:OA)(sz j off:Nat):OA:=ad.map (·.add (j*sz+off))
section ops
variable {P:Program}{N:Nat}{env:Env}{L:Η}{Ξ:F4}{ty:TypeId}{pos:String}{af:Array Edge}
def Ev.move{x:Operand}{v:Value}(O:cq env x=some v):Ev P L env (.move x) ty (v) :=
 Ev.mk (λ_ _ _ _ ea _ _ _ _ _=>by simp[execOp,aJ ea O])
def Ev.assign{x:Operand}{v:Value}(O:cq env x=some v):Ev P L env (.assign x) ty (v) :=
 Ev.mk (λ_ _ _ _ ea _ _ _ _ _=>by simp[execOp,aJ ea O])
def Ev.n8{c x y:Operand}{v:Value}(hc:cq env c=some (.bool true))(O:cq env x=some v):Ev P L env (.pick c x y) ty (v) :=
 Ev.mk (λ_ _ _ _ ea _ _ _ _ _=>by simp[execOp,aJ ea hc,aJ ea O,asBool])
def Ev.n5{c x y:Operand}{v:Value}(hc:cq env c=some (.bool false))(Y:cq env y=some v):Ev P L env (.pick c x y) ty (v) :=
 Ev.mk (λ_ _ _ _ ea _ _ _ _ _=>by simp[execOp,aJ ea hc,aJ ea Y,asBool])
def Ev.extract{x:Operand}{l:τ}{i:Nat}{v:Value}(O:cq env x=some (.tuple l.toArray))(hi:l[i]? = some v):Ev P L env (.extract x i) ty (v) :=
 Ev.mk (λ_ _ _ _ ea _ _ _ _ _=>by simp[execOp,aJ ea O,Instr.extract,hi])
theorem wrap_i64{n:Int}(h0 : -9223372036854775808<=n)(K:n<=9223372036854775807):IntKind.i64.wrap n=n:=by
 exact IntWalk.i64_in _ ⟨h0,K⟩
def mV{B:Option Tmp}{g:Option (Nat×Bool)}{op:BinOp}{k:IntKind}{t yt:TypeId}{x y:Operand}{a b:Int}{ρ:Operand->Value}{w:World}{b' : Bool}(O:ρ x=.int k a)(Y:ρ y=.int k b)
  (M:(binOp op t (.int k a) (.int k b)).run P w=.ok (.bool b') w):(execOp ρ ⟨B,.binOp op t x y yt,ty,pos,af,g⟩).run P w=.ok (.value (.bool b')) w:=by
 simp[execOp,O,Y,M,eqGuard]
def ig{B:Option Tmp}{g:Option (Nat×Bool)}{op:BinOp}{k k' : IntKind}{t yt:TypeId}{x y:Operand}{a b c:Int}{ρ:Operand->Value}{w:World}(O:ρ x=.int k a)(Y:ρ y=.int k' b)
  (M:(binOp op t (.int k a) (.int k' b)).run P w=.ok (.int k c) w):(execOp ρ ⟨B,.binOp op t x y yt,ty,pos,af,g⟩).run P w=.ok (.value (.int k c)) w:=by
 simp[execOp,O,Y,M,eqGuard]
def Ev.eql{t yt:TypeId}{x y:Operand}{k:IntKind}{a b:Int}(O:cq env x=some (.int k a))(Y:cq env y=some (.int k b)):Ev P L env (.binOp .eql t x y yt) ty (.bool (dB (a=b))) :=
 Ev.mk (λ_ _ _ w ea _ _ _ _ _=>mV (aJ ea O) (aJ ea Y) (by simp[binOp,Op.intCmp,BEq.beq,dH]))
def Ev.neq{t yt:TypeId}{x y:Operand}{k:IntKind}{a b:Int}(O:cq env x=some (.int k a))(Y:cq env y=some (.int k b)):Ev P L env (.binOp .neq t x y yt) ty (.bool (dB (¬a=b))) :=
 Ev.mk (λ_ _ _ w ea _ _ _ _ _=>mV (aJ ea O) (aJ ea Y) (by simp[binOp,Op.intCmp,bne,BEq.beq,dH]))
def Ev.lss{t yt:TypeId}{x y:Operand}{k:IntKind}{a b:Int}(O:cq env x=some (.int k a))(Y:cq env y=some (.int k b)):Ev P L env (.binOp .lss t x y yt) ty (.bool (dB (a<b))) :=
 Ev.mk (λ_ _ _ w ea _ _ _ _ _=>mV (aJ ea O) (aJ ea Y) (by simp[binOp,Op.intCmp,dH]))
def Ev.leq{t yt:TypeId}{x y:Operand}{k:IntKind}{a b:Int}(O:cq env x=some (.int k a))(Y:cq env y=some (.int k b)):Ev P L env (.binOp .leq t x y yt) ty (.bool (dB (a<=b))) :=
 Ev.mk (λ_ _ _ w ea _ _ _ _ _=>mV (aJ ea O) (aJ ea Y) (by simp[binOp,Op.intCmp,dH]))
def Ev.gtr{t yt:TypeId}{x y:Operand}{k:IntKind}{a b:Int}(O:cq env x=some (.int k a))(Y:cq env y=some (.int k b)):Ev P L env (.binOp .gtr t x y yt) ty (.bool (dB (b<a))) :=
 Ev.mk (λ_ _ _ w ea _ _ _ _ _=>mV (aJ ea O) (aJ ea Y) (by simp[binOp,Op.intCmp,dH]))
def Ev.geq{t yt:TypeId}{x y:Operand}{k:IntKind}{a b:Int}(O:cq env x=some (.int k a))(Y:cq env y=some (.int k b)):Ev P L env (.binOp .geq t x y yt) ty (.bool (dB (b<=a))) :=
 Ev.mk (λ_ _ _ w ea _ _ _ _ _=>mV (aJ ea O) (aJ ea Y) (by simp[binOp,Op.intCmp,dH]))
theorem Ev.add{t yt:TypeId}{x y:Operand}{a b:Int}(O:cq env x=some (.int .i64 a))(Y:cq env y=some (.int .i64 b))(h0 : -9223372036854775808<=a+b)(K:a+b<=9223372036854775807):Ev P L env (.binOp .add t x y yt) ty (.int .i64 (a+b)) :=
 Ev.mk (λ_ _ _ w ea _ _ _ _ _=>ig (aJ ea O) (aJ ea Y) (by simp[binOp,Op.intArith,wrap_i64 h0 K]))
def Ev.sub{t yt:TypeId}{x y:Operand}{a b:Int}(O:cq env x=some (.int .i64 a))(Y:cq env y=some (.int .i64 b))(h0 : -9223372036854775808<=a - b)(K:a - b<=9223372036854775807):Ev P L env (.binOp .sub t x y yt) ty (.int .i64 (a - b)) :=
 Ev.mk (λ_ _ _ w ea _ _ _ _ _=>ig (aJ ea O) (aJ ea Y) (by simp[binOp,Op.intArith,wrap_i64 h0 K]))
def Ev.mul{t yt:TypeId}{x y:Operand}{a b:Int}(O:cq env x=some (.int .i64 a))(Y:cq env y=some (.int .i64 b))(h0 : -9223372036854775808<=a*b)(K:a*b<=9223372036854775807):Ev P L env (.binOp .mul t x y yt) ty (.int .i64 (a*b)) :=
 Ev.mk (λ_ _ _ w ea _ _ _ _ _=>ig (aJ ea O) (aJ ea Y) (by simp[binOp,Op.intArith,wrap_i64 h0 K]))
def Ev.A7{t yt:TypeId}{x y:Operand}{k:IntKind}{a b:Int}(O:cq env x=some (.int k a))(Y:cq env y=some (.int k b)):Ev P L env (.binOp .add t x y yt) ty (.int k (k.wrap (a+b))) :=
 Ev.mk (λ_ _ _ w ea _ _ _ _ _=>ig (aJ ea O) (aJ ea Y) (by simp[binOp,Op.intArith]))
def Ev.A4{t yt:TypeId}{x y:Operand}{k:IntKind}{a b:Int}(O:cq env x=some (.int k a))(Y:cq env y=some (.int k b)):Ev P L env (.binOp .sub t x y yt) ty (.int k (k.wrap (a - b))) :=
 Ev.mk (λ_ _ _ w ea _ _ _ _ _=>ig (aJ ea O) (aJ ea Y) (by simp[binOp,Op.intArith]))
def Ev.A5{t yt:TypeId}{x y:Operand}{k:IntKind}{a b:Int}(O:cq env x=some (.int k a))(Y:cq env y=some (.int k b)):Ev P L env (.binOp .mul t x y yt) ty (.int k (k.wrap (a*b))) :=
 Ev.mk (λ_ _ _ w ea _ _ _ _ _=>ig (aJ ea O) (aJ ea Y) (by simp[binOp,Op.intArith]))
def AD{a b:Int}(h0 : -9223372036854775808<=a)(K:a<=9223372036854775807)(hb:0<b) : -9223372036854775808<=a.tdiv b/\a.tdiv b<=9223372036854775807:=by
 by_cases ha:0<=a
 .rw[Int.tdiv_eq_ediv_of_nonneg ha];have T:=Int.ediv_nonneg ha (Int.le_of_lt hb);have h3:=Int.ediv_le_self b ha;omega
 .have h4:a.tdiv b = -((-a).tdiv b):=by rw[Int.neg_tdiv,Int.neg_neg]
  rw[h4,Int.tdiv_eq_ediv_of_nonneg (by omega)];have T:=Int.ediv_nonneg (show 0<=-a by omega) (Int.le_of_lt hb);have h3:=Int.ediv_le_self b (show 0<=-a by omega);omega
def Ev.quo{t yt:TypeId}{x y:Operand}{a b:Int}(O:cq env x=some (.int .i64 a))(Y:cq env y=some (.int .i64 b))(h0:0<=a)(K:a<=9223372036854775807)(hb:0<b):Ev P L env (.binOp .quo t x y yt) ty (.int .i64 (a / b)) :=
 Ev.mk (λ_ _ _ w ea _ _ _ _ _=>ig (aJ ea O) (aJ ea Y) (by
  have B : b≠0:=by omega
  have T:=Int.ediv_nonneg h0 (Int.le_of_lt hb);have h3:=Int.ediv_le_self b h0;simp[binOp,Op.intDiv,B,Int.tdiv_eq_ediv_of_nonneg h0,wrap_i64 (show -9223372036854775808<=a / b by omega) (show a / b<=9223372036854775807 by omega)]))
def Ev.y6{t yt:TypeId}{x y:Operand}{a b:Int}(O:cq env x=some (.int .i64 a))(Y:cq env y=some (.int .i64 b))(h0 : -9223372036854775808<=a)(K:a<=9223372036854775807)(hb:0<b):Ev P L env (.binOp .quo t x y yt) ty (.int .i64 (a.tdiv b)) :=
 Ev.mk (λ_ _ _ w ea _ _ _ _ _=>ig (aJ ea O) (aJ ea Y) (by
  have B : b≠0:=by omega
  have T:=AD h0 K hb;simp[binOp,Op.intDiv,B,wrap_i64 T.1 T.2]))
def Ev.rem{t yt:TypeId}{x y:Operand}{k:IntKind}{a b:Int}(O:cq env x=some (.int k a))(Y:cq env y=some (.int k b))(h0:0<=a)(hb:0<b):Ev P L env (.binOp .rem t x y yt) ty (.int k (a % b)) :=
 Ev.mk (λ_ _ _ w ea _ _ _ _ _=>ig (aJ ea O) (aJ ea Y) (by
  have B : b≠0:=by omega
  simp[binOp,Op.intDiv,B,Int.tmod_eq_emod_of_nonneg h0]))
def Ev.x9{t yt:TypeId}{x y:Operand}{k:IntKind}{a b:Int}(O:cq env x=some (.int k a))(Y:cq env y=some (.int k b))(hb:b≠0):Ev P L env (.binOp .rem t x y yt) ty (.int k (a.tmod b)) :=
 Ev.mk (λ_ _ _ w ea _ _ _ _ _=>ig (aJ ea O) (aJ ea Y) (by simp[binOp,Op.intDiv,hb]))
def Ev.neg{t:TypeId}{x:Operand}{a:Int}(O:cq env x=some (.int .i64 a))(h0 : -9223372036854775807<=a)(K:a<=9223372036854775807):Ev P L env (.unOp .neg t x) ty (.int .i64 (-a)) :=
 Ev.mk (λ_ _ _ w ea _ _ _ _ _=>by
  have hw:IntKind.i64.wrap (0 - a) = -a:=by rw[wrap_i64 (by omega) (by omega)];omega
  simp[execOp,aJ ea O,Op.unary,Op.intArith] at hw ⊢;exact hw)
def Ev.not{t:TypeId}{x:Operand}{φ:Prop}[Decidable φ](O:cq env x=some (.bool (dB φ))):Ev P L env (.unOp .not t x) ty (.bool (dB (¬φ))) :=
 Ev.mk (λ_ _ _ w ea _ _ _ _ _=>by simp[execOp,aJ ea O,Op.unary,dH])
def Ev.o7{t:TypeId}{x:Operand}{b:Bool}(O:cq env x=some (.bool b)):Ev P L env (.unOp .not t x) ty (.bool (!b)) :=
 Ev.mk (λ_ _ _ w ea _ _ _ _ _=>by simp[execOp,aJ ea O,Op.unary])
def Ev.y8{t:TypeId}{x:Operand}(O:cq env x=some (.bool true)):Ev P L env (.unOp .not t x) ty (.bool false):=Ev.o7 O
def Ev.y9{t:TypeId}{x:Operand}(O:cq env x=some (.bool false)):Ev P L env (.unOp .not t x) ty (.bool true):=Ev.o7 O
def Ev.conv{s t:TypeId}{x:Operand}{k k' : IntKind}{a:Int}[hs:QX P s k][ht:QX P t k'](O:cq env x=some (.int k a)):Ev P L env (.convert s t x) ty (.int k' (k'.wrap a)) :=
 Ev.mk (λ_ _ _ w ea _ _ _ _ _=>by simp[execOp,aJ ea O,convert,run_underlying hs.under,run_underlying ht.under,Conv.intToInt])
def Ev.min2{x y:Operand}{ats:Array TypeId}{k k' : IntKind}{a b:Int}(O:cq env x=some (.int k a))(Y:cq env y=some (.int k' b)):Ev P L env (.call { callee:=.builtin .min,args:=#[x,y],argTypes:=ats }) ty (.int k (min a b)) :=
 Ev.mk (λ_ _ _ w ea _ _ _ _ _=>by
  have hm:(if b<a then b else a)=min a b:=by split<;>omega
  simp[execOp,resolve,invoke,builtin,aJ ea O,aJ ea Y,Builtin.min_,Builtin.min2,hm])
def Ev.max2{x y:Operand}{ats:Array TypeId}{k k' : IntKind}{a b:Int}(O:cq env x=some (.int k a))(Y:cq env y=some (.int k' b)):Ev P L env (.call { callee:=.builtin .max,args:=#[x,y],argTypes:=ats }) ty (.int k (max a b)) :=
 Ev.mk (λ_ _ _ w ea _ _ _ _ _=>by
  have hm:(if a<b then b else a)=max a b:=by split<;>omega
  have B : (if b>a then b else a)=max a b:=by split<;>omega
  simp[execOp,resolve,invoke,builtin,aJ ea O,aJ ea Y,Builtin.max_,Builtin.max2];first|exact hm|exact B | omega)
def Ev.nilCheck{x:Operand}{a:Addr}(O:cq env x=some (.pointer (some a))):Ev P L env (.nilCheck x) ty (.pointer (some a)) :=
 Ev.mk (λ_ _ _ w ea _ _ _ _ _=>by simp[execOp,aJ ea O])
def kI{t:TypeId}{u v:Value}{r:Bool}{w:World}(h:∀n,(Op.equalIn (n+1) t u v).run P w=.ok r w):(Op.equal t u v).run P w=.ok r w:=h 9999
def nm{t e:TypeId}{p q:OA}{w:World}{n:Nat}(he:P.underlying t=some (.pointer e))(hq:p=none\/q=none):(Op.equalIn (n+1) t (.pointer p) (.pointer q)).run P w=.ok (decide (p=q)) w:=by
 rcases hq with rfl|rfl
 .cases q<;>simp[Op.equalIn,run_underlying he]
 .cases p<;>simp[Op.equalIn,run_underlying he]
def AK{t e:TypeId}{ad:OA}{k c:Nat}{w:World}{n:Nat}(he:P.underlying t=some (.slice e)):(Op.equalIn (n+1) t (.slice ad k c) (.slice none 0 0)).run P w=.ok (decide (ad=none)) w:=by
 cases ad<;>simp[Op.equalIn,run_underlying he]
def Ev.u0{t yt:TypeId}{x y:Operand}{a:Addr}[ht:UE P t](O:cq env x=some (.pointer (some a)))(Y:cq env y=some (.pointer none)):Ev P L env (.binOp .eql t x y yt) ty (.bool false) :=
 Ev.mk (λ_ _ _ w ea _ _ _ _ _=>by
  obtain⟨e,he⟩:=ht.under;have K:=kI (P:=P) (w:=w) (λn=>nm (n:=n) (p:=some a) (q:=none) he (.inr rfl));simp[execOp,aJ ea O,aJ ea Y,eqGuard,binOp,K])
def Ev.t6{t yt:TypeId}{x y:Operand}{a:Addr}[ht:UE P t](O:cq env x=some (.pointer (some a)))(Y:cq env y=some (.pointer none)):Ev P L env (.binOp .neq t x y yt) ty (.bool true) :=
 Ev.mk (λ_ _ _ w ea _ _ _ _ _=>by
  obtain⟨e,he⟩:=ht.under;have K:=kI (P:=P) (w:=w) (λn=>nm (n:=n) (p:=some a) (q:=none) he (.inr rfl));simp[execOp,aJ ea O,aJ ea Y,eqGuard,binOp,K])
def Ev.p5{t yt:TypeId}{x y:Operand}[ht:UE P t](O:cq env x=some (.pointer none))(Y:cq env y=some (.pointer none)):Ev P L env (.binOp .eql t x y yt) ty (.bool true) :=
 Ev.mk (λ_ _ _ w ea _ _ _ _ _=>by
  obtain⟨e,he⟩:=ht.under;have K:=kI (P:=P) (w:=w) (λn=>nm (n:=n) (p:=none) (q:=none) he (.inr rfl));simp[execOp,aJ ea O,aJ ea Y,eqGuard,binOp,K])
def Ev.w0{t yt:TypeId}{x y:Operand}{ad:OA}{n c η sz bb:Nat}{z:τ}[ht:M7 P t η sz bb z](O:cq env x=some (.slice ad n c))(Y:cq env y=some (.slice none 0 0)):Ev P L env (.binOp .eql t x y yt) ty (.bool (dB (ad=none))) :=
 Ev.mk (λ_ _ _ w ea _ _ _ _ _=>by
  have K:=kI (P:=P) (w:=w) (λm=>AK (n:=m) (ad:=ad) (k:=n) (c:=c) ht.under);simp[execOp,aJ ea O,aJ ea Y,eqGuard,binOp,K,dH])
def qz{s f:Nat}{off:Nat}[hf:cM P s f off]{a:Addr}{w:World}:(Instr.fieldAt s (.pointer (some a)) f).run P w=.ok (.pointer (some (a.add off))) w:=by
 obtain⟨fs,fd,i,K,T,h3,h4,h5⟩:=hf.run;subst h3;simp[Instr.fieldAt,run_underlying K,T,Instr.sureAddr,fieldPlace,sizeOf,typeInfo,h4,h5]
def Ev.fieldAddr{s f:Nat}{x:Operand}{b off:Nat}[cM P s f off](O:cq env x=some (.pointer (some ⟨b,0,none⟩))):Ev P L env (.fieldAddr s x f) ty (.pointer (some ⟨b,off,none⟩)) :=
 Ev.mk (λ_ _ _ w ea _ _ _ _ _=>by simp[execOp,aJ ea O,qz,fT])
def Ev.f7{s f:Nat}{x:Operand}{b o off:Nat}[cM P s f off](O:cq env x=some (.pointer (some ⟨b,o,none⟩))):Ev P L env (.fieldAddr s x f) ty (.pointer (some ⟨b,o+off,none⟩)) :=
 Ev.mk (λ_ _ _ w ea _ _ _ _ _=>by simp[execOp,aJ ea O,qz,iR])
def Ev.d7{s f:Nat}{x:Operand}{ad:OA}{sz j off:Nat}[cM P s f off]{α:Type}{Ε:α->τ}{I:List α}[hr:F2 L ad α Ε sz I](O:cq env x=some (.pointer (Pb ad sz j 0)))(hj:j<I.length):Ev P L env (.fieldAddr s x f) ty (.pointer (Pb ad sz j off)) :=
 Ev.mk (λθ R _ w ea s _ _ _ _=>by
  obtain⟨_,T⟩:=hr.rd θ R w s;rcases T with T|⟨a,rfl,_⟩
  .subst T;simp at hj
  .have e:(a.add (j*sz+0)).add off=a.add (j*sz+off):=by
    unfold Addr.add;(repeat' split)<;>first|rfl|omega|(simp;omega)|(simp_all;done)
   simp only[Nat.add_zero] at e;simp[execOp,aJ ea O,Pb,qz,e])
def Ev.indexAddr{t:TypeId}{x i:Operand}{ad:OA}{n c η sz bb:Nat}{z:τ}{j:Int}{k:IntKind}{α:Type}{Ε:α->τ}{I:List α}[ht:M7 P t η sz bb z][hr:F2 L ad α Ε sz I]
  (O:cq env x=some (.slice ad n c)) (hi:cq env i=some (.int k j)) (h0:0<=j) (K:j<n) (hn:n<=I.length):Ev P L env (.indexAddr t x i) ty (.pointer (Pb ad sz j.toNat 0)) :=
 Ev.mk (λθ R _ w ea s _ _ _ _=>by
  obtain⟨_,T⟩:=hr.rd θ R w s;obtain⟨ii,z0,i1,i2,i3,i4,i5⟩:=ht.Β;rcases T with T|⟨a,rfl,_⟩
  .subst T;simp at hn;omega
  .simp[execOp,aJ ea O,aJ ea hi,Instr.indexAt,asIntOf,run_underlying ht.under,h0,K,sizeOf,typeInfo,i1,i4,Pb])
theorem Ev.g9{t:TypeId}{x i:Operand}{b n c η sz bb:Nat}{z:τ}{j:Int}{k:IntKind}[ht:M7 P t η sz bb z]
  (O:cq env x=some (.slice (some ⟨b,0,none⟩) n c)) (hi:cq env i=some (.int k j)) (h0:0<=j) (K:j<n):Ev P L env (.indexAddr t x i) ty (.pointer (some ⟨b,j.toNat*sz,none⟩)) :=
 Ev.mk (λθ R _ w ea s _ _ _ _=>by
  obtain⟨ii,z0,i1,i2,i3,i4,i5⟩:=ht.Β;simp[execOp,aJ ea O,aJ ea hi,Instr.indexAt,asIntOf,run_underlying ht.under,h0,K,sizeOf,typeInfo,i1,i4,fT])
def Sat.T5{θ:Th}{b ac:Nat}{cs:τ}{L R:Η}{w:World}(s:Sat θ (L++R) w){F9:Η}(hp:L.Perm (obj b ac cs::F9)):w.heap[b]? = some (.cells cs.toArray ac (0,0)) :=
 (s.perm (hp.append_right R)).Nr
def Ev.d8{t:TypeId}{x:Operand}{b k ac:Nat}{cs:τ}{F9:Η}{v:Value}[ht:L6 P t][hp:PO L b ac cs F9](O:cq env x=some (.pointer (some ⟨b,k,none⟩)))(hv:cs[k]? = some v):Ev P L env (.load t x) ty (v) :=
 Ev.mk (λθ R _ w ea s _ _ _ _=>by
  have hb:=s.T5 hp.perm;simp[execOp,aJ ea O,Instr.loadAt,Instr.sureAddr,loadVar,ht.run,eh hb,hv])
def Ev.c9{t:TypeId}{x:Operand}{b ac n:Nat}{cs:τ}{F9:Η}[ht:NT P t n][hp:PO L b ac cs F9](O:cq env x=some (.pointer (some ⟨b,0,none⟩)))(hn:cs.length=n):Ev P L env (.load t x) ty (.agg cs.toArray) :=
 Ev.mk (λθ R _ w ea s _ _ _ _=>by
  have hb:=s.T5 hp.perm;have U:=run_loadCells_list (P:=P) w ⟨b,0,none⟩ cs (λj v hv=>by rw[fT,eh hb];simpa using hv);rw[hn] at U;simp[execOp,aJ ea O,Instr.loadAt,Instr.sureAddr,loadVar,ht.run,NT.Re,U])
def Ev.f5{t:TypeId}{x:Operand}{ad:OA}{sz j o:Nat}{α:Type}[Inhabited α]{Ε:α->τ}{I:List α}{v:Value}[ht:L6 P t][hr:F2 L ad α Ε sz I]
  (O:cq env x=some (.pointer (Pb ad sz j o))) (hj:j<I.length) (ho:o<sz) (hv:(Ε I[j]!)[o]? = some v):Ev P L env (.load t x) ty (v) :=
 Ev.mk (λθ R _ w ea s _ _ _ _=>by
  obtain⟨K,T⟩:=hr.rd θ R w s;rcases T with T|⟨a,rfl,h3⟩
  .subst T;simp at hj
  .have h4:=h3 (j*sz+o) v (by rw[nz K hj ho];exact hv);simp[execOp,aJ ea O,Pb,Instr.loadAt,Instr.sureAddr,loadVar,ht.run,h4])
def Ev.d9{t:TypeId}{x:Operand}{ad:OA}{sz j:Nat}{α:Type}[Inhabited α]{Ε:α->τ}{I:List α}[ht:NT P t sz][hr:F2 L ad α Ε sz I]
  (O:cq env x=some (.pointer (Pb ad sz j 0))) (hj:j<I.length):Ev P L env (.load t x) ty (.agg (Ε I[j]!).toArray) :=
 Ev.mk (λθ R _ w ea s _ _ _ _=>by
  obtain⟨K,T⟩:=hr.rd θ R w s;rcases T with T|⟨a,rfl,h3⟩
  .subst T;simp at hj
  .have B:(Ε I[j]!).length=sz:=K _ (by rw[List.getElem!_eq_getElem?_getD,List.getElem?_eq_getElem hj];simp)
   have U:=run_loadCells_list (P:=P) w (a.add (j*sz)) (Ε I[j]!) (λo v hv=>by
    have ho:o<sz:=by rw[<-B];exact(List.getElem?_eq_some_iff.1 hv).1
    have e:(a.add (j*sz)).add o=a.add (j*sz+o):=by
     unfold Addr.add;(repeat' split)<;>first|rfl|omega|(simp;omega)|(simp_all;done)
    rw[e];exact h3 _ v (by rw[nz K hj ho];exact hv))
   rw[B] at U;simp[execOp,aJ ea O,Pb,Instr.loadAt,Instr.sureAddr,loadVar,ht.run,NT.Re,U])
def mq{w:World}{b k:Nat}{cs:Array Value}{ac:TypeId}{fz:Nat×Nat}(v:Value)(h:w.heap[b]? = some (.cells cs ac fz)):(w.setCell ⟨b,k,none⟩ v).heap[b]? = some (.cells (cs.setIfInBounds k v) ac fz):=by
 simp[World.setCell,Array.getElem?_modify,h]
def lY{w:World}{b k j:Nat}(v:Value)(h:j≠b):(w.setCell ⟨b,k,none⟩ v).heap[j]? = w.heap[j]?:=by
 simp only[World.setCell,Array.getElem?_modify];rw[Ν (by omega)]
def pZ:τ->Nat->Value->(τ->Option (τ))->Option (τ)
 | [],_,_,_=>none
 | _::cs,0,v,k=>k (v::cs)
 | c::cs,n+1,v,k=>pZ cs n v λr=>k (c::r)
def tH:∀(cs:τ) (n:Nat) (v:Value) (k:τ->Option (τ)) (r:τ),pZ cs n v k=some r->n<cs.length/\k (cs.set n v)=some r
 | [],_,_,_,_,h=>by simp[pZ] at h
 | _::cs,0,v,k,r,h=>by simpa [pZ] using h
 | c::cs,n+1,v,k,r,h=>by
  have:=tH cs n v (λr=>k (c::r)) r (by simpa [pZ] using h)
  simpa using this
def Ef.f9{t:TypeId}{x y:Operand}{b k ac:Nat}{cs a3 : τ}{F9:Η}{v:Value}[ht:L6 P t][hp:PO L b ac cs F9](O:cq env x=some (.pointer (some ⟨b,k,none⟩)))(Y:cq env y=some v)(K:v.oneCell' = true)(a4:pZ cs k v some=some a3)
  : Ef P L env (.store t x y) ty (λ_ Γ=>Γ = obj b ac a3::F9) :=
 Ef.skip (λθ R a w ea s a7 pos af g=>by
  have s1:=s.perm (hp.perm.append_right R);have hb:w.heap[b]? = some (.cells cs.toArray ac (0,0)):=s1.Nr;obtain⟨a9,M⟩:=tH _ _ _ _ _ a4;have a2:cs.set k v=a3:=by simpa using M
  subst a2;have B:w.cell? ⟨b,k,none⟩=some cs[k]:=by rw[eh hb];simp
  have a6:w.frozen? ⟨b,k,none⟩=false:=by simp[World.frozen?,hb]
  have a5:v.cells=#[v]:=by cases v<;>first|rfl|cases K
  refine⟨w.setCell ⟨b,k,none⟩ v,_,?_,rfl,?_⟩
  .simp[execOp,aJ ea O,aJ ea Y,Instr.storeAt,Instr.sureAddr,storeVar,L6.Re,a5,storeCells,Addr.add,run_store _ _ _ _ _ K,B,a6]
  .refine Sat.update s1 ⟨s.1.tape,s.1.os,s.1.output,s.1.drawn⟩ ?_ (λj x hj O=>by rw[lY v hj];exact O);rw[mq v hb];simp)
def Ef.f8{t:TypeId}{x y:Operand}{b ac n:Nat}{cs vs:τ}{F9:Η}[ht:NT P t n][hp:PO L b ac cs F9](O:cq env x=some (.pointer (some ⟨b,0,none⟩)))(Y:cq env y=some (.agg vs.toArray))(hn:vs.length=n)(hc:cs.length=n)(K:∀v∈vs,v.oneCell' = true)
  : Ef P L env (.store t x y) ty (λ_ Γ=>Γ = obj b ac vs::F9) :=
 Ef.skip (λθ R a w ea s M pos af g=>by
  have s1:=s.perm (hp.perm.append_right R);have hb:w.heap[b]? = some (.cells cs.toArray ac (0,0)):=s1.Nr;have B:=run_storeCells_at P b 0 ac vs 0 cs.toArray w hb (by simp;omega) K;refine⟨w.setRow b vs.toArray,_,?_,rfl,?_⟩
  .simp[execOp,aJ ea O,aJ ea Y,Instr.storeAt,Instr.sureAddr,storeVar,NT.Re,Value.cells,hn] at B ⊢;rw[B];simp[show List.drop n cs=[] by rw[<-hc];simp]
  .exact Sat.update s1 ⟨s.1.tape,s.1.os,s.1.output,s.1.drawn⟩ (setRow_heap w b _ _ ac _ hb) (λj x hj O=>by rw[setRow_other w b j _ hj];exact O))
def Ef.j7{t:TypeId}{x:Operand}{vs:τ}(O:cq env x=some (.agg vs.toArray)):Ef P L env (.box t x) ty (λv Γ=>∃b,v=.pointer (some ⟨b,0,none⟩)/\Γ = obj b t vs::L) :=
 Ef.val (λθ R a w ea s B pos af g=>⟨_,w.alloc (.cells vs.toArray t),_,by simp[execOp,aJ ea O,Instr.box,newVar,newRow,Value.cells],⟨_,rfl,rfl⟩,s.alloc⟩)
def Ef.k8{t:TypeId}{x:Operand}{v:Value}(O:cq env x=some v)(K:v.oneCell' = true):Ef P L env (.box t x) ty (λu Γ=>∃b,u=.pointer (some ⟨b,0,none⟩)/\Γ = obj b t [v]::L) :=
 Ef.val (λθ R a w ea s M pos af g=>⟨_,w.alloc (.cells #[v] t),_,by
  have B:v.cells=#[v]:=by cases v<;>first|rfl|cases K
  simp[execOp,aJ ea O,Instr.box,newVar,newRow,B],⟨_,rfl,rfl⟩,s.alloc⟩)
class NC (P:Program) (ac:Nat) (z:outParam (τ)):Prop where
 zero:(P.info? ac).map (λi=>i.zero.map (·.cells.toList))=some (some z)
def NC.run{P:Program}{ac:Nat}{z:τ}[h:NC P ac z](w:World):∃z0,(zeroValue ac).run P w=.ok z0 w/\z0.cells=z.toArray:=by
 have K:=h.zero;cases hi:P.info? ac with
 | none=>rw[hi] at K;cases K
 | some i =>
  rw[hi] at K;simp at K;obtain⟨z0,hz,B⟩:=K;exact⟨z0,by simp[zeroValue,typeInfo,hi,hz],by rw[<-B]⟩
def Ef.alloc{t:TypeId}{z:τ}[hz:NC P t z]:Ef P L env (.alloc t) ty (λu Γ=>∃b,u=.pointer (some ⟨b,0,none⟩)/\Γ = obj b t z::L) :=
 Ef.val (λθ R a w ea s B pos af g=>⟨_,w.alloc (.cells z.toArray t),_,by
  obtain⟨z0,K,T⟩:=hz.run w;simp[execOp,Instr.alloc,K,newVar,newRow,T],⟨_,rfl,rfl⟩,s.alloc⟩)
def sV(z:τ)(sz len:Nat)(Β:List (Nat×Value)):Option (τ) :=
 (Instr.fill (λi=>some (i*sz,sz)) ((Array.range (len*sz)).map (z.toArray[· % z.length]!)) Β).map (·.toList)
def Ef.buildSlice{t:TypeId}{len:Nat}{ps:Array (Nat×Operand)}{vs:List (Nat×Value)}{η sz bb:Nat}{z cs:τ}[ht:M7 P t η sz bb z](hv:kO env ps.toList=some vs)(U:len*sz<=16777216)(hc:sV z sz len vs=some cs)
  : Ef P L env (.buildSlice t len ps) ty (λv Γ=>∃b,v=.slice (some ⟨b,0,none⟩) len len/\Γ = obj b η cs::L) :=
 Ef.val (λθ R a w ea s a4 pos af g=>⟨.slice (some ⟨w.heap.size,0,none⟩) len len,w.alloc (.cells cs.toArray η),_,by
  obtain⟨ii,z0,i1,i2,i3,i4,i5⟩:=ht.Β
  have B:ps.map (λp=>(p.1,a p.2))=vs.toArray:=by
   apply Array.ext';simpa using ea.pairs ps.toList vs hv
  have hz:z0.cells=z.toArray:=by rw[<-i3]
  simp only[sV,Option.map_eq_some_iff] at hc;obtain⟨ar,M,a3⟩:=hc;subst a3;have a2:¬len*sz>2 ^ 24:=by omega
  simp only[execOp,B,Instr.buildSlice,Sem.run_bind,run_underlying ht.under,Result.andThen_ok,sizeOf,typeInfo,run_program,i1,Sem.run_pure,i4,a2,if_false,zeroValue];by_cases h0:len*sz=0
  .simp only[h0,if_true];have e0:(Array.range 0:Array Nat)=#[]:=rfl;simp only[h0,e0,List.map_toArray,List.map_nil] at M ⊢;simp only[M];simp[newRow]
  .simp only[h0,if_false,Sem.run_bind,run_program,Result.andThen_ok,i1,Sem.run_pure,i2,hz,List.size_toArray];simp only[M];simp[newRow],⟨_,rfl,rfl⟩,s.alloc⟩)
def Ev.w8{t:TypeId}{x:Operand}{ad:OA}{n c η sz bb:Nat}{z:τ}[ht:M7 P t η sz bb z](O:cq env x=some (.slice ad n c)):Ev P L env (.call { callee:=.builtin .len,args:=#[x],argTypes:=#[t] }) ty (.int .i64 (n:Int)) :=
 Ev.mk (λ_ _ _ w ea _ _ _ _ _=>by simp[execOp,resolve,invoke,builtin,aJ ea O,Builtin.len_,run_underlying ht.under,goInt])
def sS{α:Type}{θ:Th}{Ε:α->τ}{sz η:Nat}{ad:OA}{cap:Nat}{I:List α}{L:Η}{w:World}(s:Sat θ (Ω Ε sz η ad cap I::L) w):w.ownsRow 0 η sz (.slice ad I.length cap) I.length (I.flatMap Ε):=by
 obtain⟨K,T,h3,h4⟩:=s.QY;refine⟨db K,?_⟩;rcases h4 with⟨rfl,rfl⟩|⟨g,B,rfl,f1,f2,f3⟩
 .left;have:I.length=0:=by omega
  simp[this]
 .exact .inr ⟨g,cap,B,rfl,Nat.zero_le _,f3.Nr,T,h3,f1,f2⟩
def qG{α:Type}{θ:Th}{Ε:α->τ}{sz η:Nat}{ad:OA}{cap:Nat}{I ys:List α}{L:Η}{w cO : World}(s:Sat θ (Ω Ε sz η ad cap I::L) w)(Y:∀x∈ys,(Ε x).length=sz){v' : Value}
  (ho:cO.ownsRow 0 η sz v' (I.length+ys.length) (I.flatMap Ε++ys.flatMap Ε)) (hg:w.grownBy cO (Value.ownBlock (.slice ad I.length cap))) (b8:w.drawn<=cO.drawn) (a3:v'.ownBlock=Value.ownBlock (.slice ad I.length cap)\/v'.ownBlock=some w.heap.size) :
  ∃b3 B,v' = .slice b3 (I++ys).length B/\Sat θ (Ω Ε sz η b3 B (I++ys)::L) cO:=by
 obtain⟨K,T,h3,h4⟩:=s.QY
 have a7:∀x∈I++ys,(Ε x).length=sz:=λx O=>by
  rcases J8 O with O|O
  .exact K x O
  .exact Y x O
 have ok:θ.ok cO:=⟨by rw[hg.tape];exact s.1.tape,by rw[hg.os];exact s.1.os,by rw[hg.output];exact s.1.output,Nat.le_trans s.1.drawn b8⟩;rcases ho.2 with⟨rfl,hn⟩|⟨g,B,b4,rfl,_,a9,b9,b6,b7,a4⟩
 .have O:I=[]:=List.eq_nil_of_length_eq_zero (by omega);have Y:ys=[]:=List.eq_nil_of_length_eq_zero (by omega);subst O Y;refine⟨none,0,rfl,Sat.d7 Ε sz η ?_⟩;refine s.tail.keep ok (λk o hk=>?_);have a5:k<w.heap.size:=(Array.getElem?_eq_some_iff.1 hk).1;by_cases a2:some k=Value.ownBlock (.slice ad ([]:List α).length cap)
  .rcases h4 with⟨rfl,rfl⟩|⟨g,b4,rfl,f1,f2,f3⟩
   .simp[Value.ownBlock] at a2
   .simp[Value.ownBlock] at a2 a3
  .rw[hg.block k a5 a2];exact hk
 .refine⟨some ⟨g,0,none⟩,B,by simp,?_⟩;have b0:(I++ys).length=I.length+ys.length:=by simp
  have fin:Sat θ (jC g (.cells b4 η (0,0))::L) cO->Sat θ (Ω Ε sz η (some ⟨g,0,none⟩) B (I++ys)::L) cO:=λs' =>
   s'.RO a7 (by omega) b6 b7 (by rw[b0,a4];simp)
  apply fin;simp only[Value.ownBlock] at a3 hg;rcases h4 with⟨rfl,rfl⟩|⟨g0,b5,rfl,f1,f2,f3⟩
  .simp at a3;subst a3;exact s.tail.fresh ok (Nat.le_refl _) a9 (λk x hk=>by rw[hg.block k (Array.getElem?_eq_some_iff.1 hk).1 (by simp)];exact hk)
  .simp at a3;rcases a3 with rfl|rfl
   .exact f3.update ok a9 (λk x hk O=>by rw[hg.block k (Array.getElem?_eq_some_iff.1 O).1 (by simpa using hk)];exact O)
   .have s5:=f3.tail
    have c0:g0≠w.heap.size:=by
     have:=(Array.getElem?_eq_some_iff.1 f3.Nr).1
     omega
    -- Wi old row is given up
    obtain⟨a6,ι,h,a,b1,c,G6,E4,D4,d1,d2,d3,d4,d5,d6⟩:=f3
    have s6:Sat θ L { w with heap:=w.heap.setIfInBounds g0 ((cO.heap[g0]?).getD default) }:=by
     refine⟨⟨a6.tape,a6.os,a6.output,a6.drawn⟩,ι,D4,a.mono (Hp.sub.refl _) d4,?_,?_,d6⟩
     .intro k o hk
      have M:k≠g0:=by
       rintro rfl;have:=a k o hk
       rw[d3 k _ d5] at this;cases this
      have:=b1 k o hk
      simp only[ib] at this ⊢;rw[Array.getElem?_setIfInBounds_ne (Ne.symm M)];exact this
     .intro k o hk
      have M:k≠g0:=by
       rintro rfl;have:=d2 k _ d5
       rw[hk] at this;cases this
      have:=c k o (d4 k o hk)
      simp only[ib] at this ⊢;rw[Array.getElem?_setIfInBounds_ne (Ne.symm M)];exact this
    refine s6.fresh ok (by simp) a9 (λk x hk=>?_);by_cases M:k=g0
    .subst M
     have a5:k<w.heap.size:=by
      have:=c k _ (d3 k _ d5)
      exact(Array.getElem?_eq_some_iff.1 this).1
     simp[a5] at hk;have b2 : k<cO.heap.size:=Nat.lt_of_lt_of_le a5 hg.size;rw[Array.getElem?_eq_getElem b2] at hk ⊢;simpa using hk
    .simp only at hk;rw[Array.getElem?_setIfInBounds_ne (Ne.symm M)] at hk;rw[hg.block k (Array.getElem?_eq_some_iff.1 hk).1 (by simpa using M)];exact hk
theorem Ef.a8{t:TypeId}{x y:Operand}{α:Type}{Ε:α->τ}{ad:OA}{n c sz η bb cap b ac:Nat}{I:List α}{z cs:τ}{R1 R2:Η}(e:α)[ht:M7 P t η sz bb z][hp:Se L ad α Ε sz η cap I R1][hq:PO R1 b ac cs R2]
  (O:cq env x=some (.slice ad n c)) (Y:cq env y=some (.slice (some ⟨b,0,none⟩) 1 1)) (he:cs=Ε e) (hn:n=I.length) (hc:c=cap) (hs:cs.length=sz) (K:∀u∈cs,u.oneCell' = true) (hb:(I.length+1)*bb<=140737488355328) (hm:I.length+1<=9223372036854775807)
  : Ef P L env (.call { callee:=.builtin .append,args:=#[x,y],argTypes:=#[t,t] }) ty (λv Γ=>∃M B,v=.slice M (I++[e]).length B/\Γ = Ω Ε sz η M B (I++[e])::R2) :=
 Ef.val (λθ R a w ea s a4 pos af g=>by
  subst hn hc he;have s1:=s.perm (hp.perm.append_right R);have a2:=sS s1;have a3:=Sat.T5 (R:=R) (show Sat θ (R1++R) w from s1.tail) hq.perm;obtain⟨ii,z0,i1,i2,i3,i4,i5⟩:=ht.Β;obtain⟨v',cO,hr,T,h3,_,h5⟩:=run_append_own_at (P:=P) w 0 t ty η ii z0 sz bb ht.under i1 i2 i4 i5 (by rw[<-ht.TJ,<-i3];simp) ht.pos _ _ _ a2 ⟨b,0,none⟩ 1 1 (Ε e) (by omega) (λj u hu=>by rw[fT,eh a3];simpa using hu) K (by simp only[maxLen];omega) hb (Nat.zero_le _);obtain⟨M,B,rfl,s2⟩:=qG (ys:=[e]) s1 (by simpa using hs) (by simpa using T) h3 (lZ _ hr) h5;refine⟨_,cO,_,?_,⟨M,B,rfl,rfl⟩,?_⟩
  .simp[execOp,resolve,invoke,builtin,aJ ea O,aJ ea Y,hr]
  .have s3:Sat θ (Ω Ε sz η M B (I++[e])::(obj b ac (Ε e)::R2++R)) cO:=s2.perm ((hq.perm.append_right R).cons _);exact(s3.perm (List.Perm.swap _ _ _)).tail)
def Ef.c9{t:TypeId}{x y:Operand}{α:Type}{Ε:α->τ}{ad a4:OA}{n c n2 c2 sz η bb cap:Nat}{I ys:List α}{z:τ}{R1:Η}[ht:M7 P t η sz bb z][hp:Se L ad α Ε sz η cap I R1][hq:F2 R1 a4 α Ε sz ys]
  (O:cq env x=some (.slice ad n c)) (Y:cq env y=some (.slice a4 n2 c2)) (hn:n=I.length) (hc:c=cap) (a9:n2=ys.length) (K:∀e∈ys,∀u∈Ε e,u.oneCell' = true) (hb:(I.length+ys.length)*bb<=140737488355328) (hm:I.length+ys.length<=9223372036854775807)
  : Ef P L env (.call { callee:=.builtin .append,args:=#[x,y],argTypes:=#[t,t] }) ty (λv Γ=>∃a3 B,v=.slice a3 (I++ys).length B/\Γ = Ω Ε sz η a3 B (I++ys)::R1) :=
 Ef.val (λθ R a w ea s b0 pos af g=>by
  subst hn hc a9;have s1:=s.perm (hp.perm.append_right R);have a6:=sS s1;obtain⟨g1,g2⟩:=hq.rd θ R w s1.tail;obtain⟨ii,z0,i1,i2,i3,i4,i5⟩:=ht.Β
  have a7 : ∀u∈ys.flatMap Ε,u.oneCell' = true:=λu hu=>by
   obtain⟨e,he,hu⟩:=List.mem_flatMap.1 hu;exact K e he u hu
  rcases a4 with _|a2
  .rcases g2 with g2|⟨a,ha,_⟩
   .subst g2;refine⟨.slice ad I.length c,w,_,?_,⟨ad,c,by simp,rfl⟩,by simpa using s1⟩;have a5:I.length<=c:=s1.QY.2.1;simp[execOp,resolve,invoke,builtin,aJ ea O,aJ ea Y,Builtin.append_,run_underlying ht.under,sizeOf,typeInfo,i1,Builtin.lenOf,a5,Builtin.firstCells];cases ad<;>simp[storeCells]
   .cases ha
  .have M:∀j u,(ys.flatMap Ε)[j]? = some u->w.cell? (a2.add j)=some u:=by
    rcases g2 with g2|⟨a,ha,g3⟩
    .subst g2;simp
    .cases ha;exact g3
   obtain⟨v',cO,hr,T,h3,_,h5⟩:=run_append_own_at (P:=P) w 0 t ty η ii z0 sz bb ht.under i1 i2 i4 i5 (by rw[<-ht.TJ,<-i3];simp) ht.pos _ _ _ a6 a2 ys.length c2 (ys.flatMap Ε) (db g1) M a7 (by simp only[maxLen];omega) hb (Nat.zero_le _);obtain⟨a3,B,rfl,s2⟩:=qG (ys:=ys) s1 g1 T h3 (lZ _ hr) h5;refine⟨_,cO,_,?_,⟨a3,B,rfl,rfl⟩,s2⟩;simp[execOp,resolve,invoke,builtin,aJ ea O,aJ ea Y,hr])
