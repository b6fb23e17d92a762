/- Rules for single operations over the logic of heaps. Holds for any program whose type tables are as the classes say. -/
import Derived.Test.YtlgpgjdggilkgaaGreatDoorEcaa
import Derived.Maps.AppendAt
set_option linter.all false
namespace Go.V
class TyOne (P:Program) (T:Nat):Prop where
 run:∀w,(isAgg T).run P w=.ok false w
 size:(P.info? T).map (·.size)=some 1
class TyAgg (P:Program) (T:Nat) (n:outParam Nat):Prop where
 run:∀w,(isAgg T).run P w=.ok true w
 size:(P.info? T).map (·.size)=some n
class TySl (P:Program) (T:Nat) (E sz by_:outParam Nat) (z:outParam (LV)):Prop where
 under:P.underlying T=some (.slice E)
 info:(P.info? E).map (fun i=>(i.zero.map (·.cells.toList),i.size,i.bytes))=some (some z,sz,by_)
 zlen:z.length=sz
 pos:0<sz
class TyInt (P:Program) (T:Nat) (k:outParam IntKind):Prop where
 under:P.underlying T=some (.int k)
class TyPtr (P:Program) (T:Nat):Prop where
 under:∃e,P.underlying T=some (.pointer e)
class TyStr (P:Program) (T:Nat):Prop where
 under:P.underlying T=some .string
class Fld (P:Program) (T f:Nat) (off:outParam Nat):Prop where
 run:∃fs fd i,P.underlying T=some (.struct fs)∧fs[f]? = some fd∧fd.offset=off∧P.info? fd.type=some i∧i.size≠0
def BR(P:Program)(f:Nat):TypeDesc→Option (Nat×Option Nat)
 | .struct fs=>(fs[f]?).map fun fd=>(fd.offset,(P.info? fd.type).map (·.size))
 | _=>none
theorem Fld.of{P:Program}{T f off:Nat}(sz:Nat)(h:(P.underlying T).map (BR P f)=some (some (off,some (sz+1)))):Fld P T f off:=by
 cases hu:P.underlying T with
 | none=>rw[hu] at h;cases h
 | some d =>
  rw[hu] at h;cases d<;>simp[BR] at h;rename_i fs;obtain⟨fd,h1,h2,i,h3,h4⟩:=h;exact⟨fs,fd,i,hu,h1,h2,h3,by omega⟩
class TyMap (P:Program) (T:Nat) (K E:outParam Nat):Prop where
 under:P.underlying T=some (.map K E)
def rR(P:Program):TypeDesc→Option (List (Nat×Option Nat))
 | .struct fs=>some (fs.toList.map fun fd=>(fd.offset,(P.info? fd.type).map (·.size)))
 | _=>none
class TyStruct (P:Program) (T:Nat) (pl:outParam (List (Nat×Nat))):Prop where
 eq:(P.underlying T).map (rR P)=some (some (pl.map fun p=>(p.1,some p.2)))
def TyOne.sizeOf_run{P:Program}{T:Nat}[h:TyOne P T](w:World):(sizeOf T).run P w=.ok 1 w:=by
 have h1:=h.size;cases hi:P.info? T with
 | none=>rw[hi] at h1;cases h1
 | some i=>rw[hi] at h1;simp at h1;simp[sizeOf,typeInfo,hi,h1]
def TyAgg.sizeOf_run{P:Program}{T n:Nat}[h:TyAgg P T n](w:World):(sizeOf T).run P w=.ok n w:=by
 have h1:=h.size;cases hi:P.info? T with
 | none=>rw[hi] at h1;cases h1
 | some i=>rw[hi] at h1;simp at h1;simp[sizeOf,typeInfo,hi,h1]
def TySl.parts{P:Program}{T E sz by_:Nat}{z:LV}(h:TySl P T E sz by_ z):∃i z0,P.info? E=some i∧i.zero=some z0∧z0.cells.toList=z∧i.size=sz∧i.bytes=by_:=by
 have h1:=h.info;cases hi:P.info? E with
 | none=>rw[hi] at h1;cases h1
 | some i =>
  rw[hi] at h1;simp at h1;obtain⟨⟨z0,hz,a0⟩,h2,h3⟩:=h1;exact⟨i,z0,rfl,hz,a0,h2,h3⟩
class EncC {α:Type} (enc:α→LV):Prop where
 one:∀x,∀u∈enc x,u.oneCell' = true
def obj(b T:Nat)(cs:LV):HP:=own b (.cells cs.toArray T (0,0))
def osl{α:Type}(enc:α→LV)(sz E:Nat)(ad:OA)(cap:Nat)(xs:List α):HP:=fun _ h =>
 (∀x∈xs,(enc x).length=sz)∧xs.length≤cap∧cap≤maxLen ∧
 ((ad=none∧cap=0)∨∃g a0,ad=some ⟨g,0,none⟩∧h g=some (.cells a0 E (0,0))∧a0.size=cap*sz∧a0.toList.take (xs.length*sz)=xs.flatMap enc)
def isl{α:Type}(enc:α→LV)(sz:Nat)(ad:OA)(xs:List α):HP:=fun ι _ =>
 (∀x∈xs,(enc x).length=sz) ∧
 (xs=[]∨∃g off a0 E fz,ad=some ⟨g,off,none⟩∧ι g=some (.cells a0 E fz)∧∀i v,(xs.flatMap enc)[i]? = some v→a0[off+i]? = some v)
def RdSl{α:Type}(w:World)(enc:α→LV)(sz:Nat)(ad:OA)(xs:List α):Prop :=
 (∀x∈xs,(enc x).length=sz) ∧
 (xs=[]∨∃a,ad=some a∧∀i v,(xs.flatMap enc)[i]? = some v→w.cell? (a.add i)=some v)
class PickObj (L:LH) (b:Nat) (T:outParam Nat) (cs:outParam (LV)) (R:outParam (LH)):Prop where
 perm:L.Perm (obj b T cs::R)
instance (L:LH)(b T:Nat)(cs:LV):PickObj (obj b T cs::L) b T cs L:=⟨List.Perm.refl _⟩
instance (A:HP)(L:LH)(b T:Nat)(cs:LV)(R:LH)[h:PickObj L b T cs R]:PickObj (A::L) b T cs (A::R):=⟨(h.perm.cons A).trans (List.Perm.swap _ _ _)⟩
class PickOsl (L:LH) (ad:OA) (α:outParam Type) (enc:outParam (α→LV)) (sz E:outParam Nat) (cap:outParam Nat) (xs:outParam (List α)) (R:outParam (LH)):Prop where
 perm:L.Perm (osl enc sz E ad cap xs::R)
instance {α:Type}(L:LH)(enc:α→LV)(sz E:Nat)(ad:OA)(cap:Nat)(xs:List α):PickOsl (osl enc sz E ad cap xs::L) ad α enc sz E cap xs L:=⟨List.Perm.refl _⟩
instance {α:Type}(A:HP)(L:LH)(enc:α→LV)(sz E:Nat)(ad:OA)(cap:Nat)(xs:List α)(R:LH)[h:PickOsl L ad α enc sz E cap xs R]:PickOsl (A::L) ad α enc sz E cap xs (A::R):=⟨(h.perm.cons A).trans (List.Perm.swap _ _ _)⟩
class Rds (L:LH) (ad:OA) (α:outParam Type) (enc:outParam (α→LV)) (sz:outParam Nat) (xs:outParam (List α)):Prop where
 rd:∀θ R w,Sat θ (L++R) w→RdSl w enc sz ad xs
def pH(a:Addr):a.add 0=a:=by simp[Addr.add]
def fZ(g i:Nat):(⟨g,0,none⟩:Addr).add i=⟨g,i,none⟩:=by unfold Addr.add;split<;>simp_all
def iR(g o i:Nat):(⟨g,o,none⟩:Addr).add i=⟨g,o+i,none⟩:=by unfold Addr.add;split<;>simp_all
def eD{w:World}{g:Nat}{a0:Array Value}{E:TypeId}{fz:Nat×Nat}(h:w.heap[g]? = some (.cells a0 E fz))(i:Nat):w.cell? ⟨g,i,none⟩=a0[i]?:=by simp[World.cell?,h]
def Sat.osl_parts{α:Type}{θ:Th}{enc:α→LV}{sz E:Nat}{ad:OA}{cap:Nat}{xs:List α}{L:LH}{w:World}(s:Sat θ (osl enc sz E ad cap xs::L) w) :
  (∀x∈xs,(enc x).length=sz)∧xs.length≤cap∧cap≤maxLen ∧
  ((ad=none∧cap=0)∨∃g a0,ad=some ⟨g,0,none⟩∧a0.size=cap*sz∧a0.toList.take (xs.length*sz)=xs.flatMap enc∧Sat θ (own g (.cells a0 E (0,0))::L) w):=by
 obtain⟨ok,ι,h,a,b1,c,ι₀,h₁,h₂,d1,d2,d3,d4,⟨e1,e2,e3,e4⟩,d6⟩:=s;refine⟨e1,e2,e3,?_⟩;rcases e4 with e4|⟨g,a0,f1,f2,f3,f4⟩
 ·exact .inl e4
 ·exact .inr ⟨g,a0,f1,f3,f4,ok,ι,h,a,b1,c,ι₀,h₁,h₂,d1,d2,d3,d4,f2,d6⟩
def Sat.osl_mk{α:Type}{θ:Th}{enc:α→LV}{sz E:Nat}{g cap:Nat}{a0:Array Value}{xs:List α}{L:LH}{w:World}(s:Sat θ (own g (.cells a0 E (0,0))::L) w)
  (h1:∀x∈xs,(enc x).length=sz) (h2:xs.length≤cap) (h3:cap≤maxLen) (h4:a0.size=cap*sz) (h5:a0.toList.take (xs.length*sz)=xs.flatMap enc):Sat θ (osl enc sz E (some ⟨g,0,none⟩) cap xs::L) w:=by
 obtain⟨ok,ι,h,a,b1,c,ι₀,h₁,h₂,d1,d2,d3,d4,d5,d6⟩:=s;exact⟨ok,ι,h,a,b1,c,ι₀,h₁,h₂,d1,d2,d3,d4,⟨h1,h2,h3,.inr ⟨g,a0,rfl,d5,h4,h5⟩⟩,d6⟩
def Sat.d7{α:Type}{θ:Th}(enc:α→LV)(sz E:Nat){L:LH}{w:World}(s:Sat θ L w):Sat θ (osl enc sz E none 0 []::L) w:=by
 obtain⟨ok,ι,h',a,b1,c,d⟩:=s;exact⟨ok,ι,h',a,b1,c,Hp.emp,Hp.emp,h',Hp.a8 _,Hp.c7 _,Hp.a8 _,Hp.sub.refl _,⟨by simp,by simp,by simp,.inl ⟨rfl,rfl⟩⟩,d⟩
def dm{α:Type}{enc:α→LV}{sz:Nat}{xs:List α}(h:∀x∈xs,(enc x).length=sz):(xs.flatMap enc).length=xs.length*sz:=by
 induction xs with
 | nil=>simp
 | cons x xs ih =>
  simp only[List.flatMap_cons,List.length_append,List.length_cons,ih (fun y hy=>h y (List.mem_cons_of_mem _ hy)),h x List.mem_cons_self,Nat.add_mul];omega
def mX{α:Type}[Inhabited α]{enc:α→LV}{sz:Nat}{xs:List α}(h:∀x∈xs,(enc x).length=sz){j o:Nat}(hj:j<xs.length)(ho:o<sz):(xs.flatMap enc)[j*sz+o]? = (enc xs[j]!)[o]?:=by
 induction xs generalizing j with
 | nil=>simp at hj
 | cons x xs ih =>
  have hx:=h x List.mem_cons_self;have hr:=fun y hy=>h y (List.mem_cons_of_mem x hy);cases j with
  | zero =>
   simp only[List.flatMap_cons,Nat.zero_mul,Nat.zero_add];rw[List.getElem?_append_left (by omega)];simp
  | succ j =>
   simp only[List.flatMap_cons];rw[List.getElem?_append_right (by rw[hx,Nat.add_mul];omega),hx,show(j+1)*sz+o - sz=j*sz+o by rw[Nat.add_mul];omega,ih hr (by simpa using hj)];simp
def Sat.osl_rd{α:Type}{θ:Th}{enc:α→LV}{sz E:Nat}{ad:OA}{cap:Nat}{xs:List α}{L:LH}{w:World}(s:Sat θ (osl enc sz E ad cap xs::L) w):RdSl w enc sz ad xs:=by
 obtain⟨h1,h2,h3,h4⟩:=s.osl_parts;refine⟨h1,?_⟩;rcases h4 with⟨rfl,rfl⟩|⟨g,a0,rfl,f1,f2,f3⟩
 ·exact .inl (List.eq_nil_of_length_eq_zero (by omega))
 ·refine .inr ⟨_,rfl,fun i v hv=>?_⟩;rw[fZ,eD f3.own_heap];rw[←f2,List.getElem?_take] at hv;split at hv
  ·simpa using hv
  ·cases hv
def Sat.isl_rd{α:Type}{θ:Th}{enc:α→LV}{sz:Nat}{ad:OA}{xs:List α}{L:LH}{w:World}(s:Sat θ (isl enc sz ad xs::L) w):RdSl w enc sz ad xs:=by
 obtain⟨ok,ι,h,a,b1,c,ι₀,h₁,h₂,d1,d2,d3,d4,⟨e1,e2⟩,d6⟩:=s;refine⟨e1,?_⟩;rcases e2 with e2|⟨g,off,a0,E,fz,rfl,f1,f2⟩
 ·exact .inl e2
 ·refine .inr ⟨_,rfl,fun i v hv=>?_⟩;have hb:w.heap[g]? = some (.cells a0 E fz):=b1 g _ (d1 g _ f1);rw[iR,eD hb];exact f2 i v hv
instance {α:Type}(L:LH)(enc:α→LV)(sz E:Nat)(ad:OA)(cap:Nat)(xs:List α):Rds (osl enc sz E ad cap xs::L) ad α enc sz xs:=⟨fun _ _ _ s=>Sat.osl_rd s⟩
instance {α:Type}(L:LH)(enc:α→LV)(sz:Nat)(ad:OA)(xs:List α):Rds (isl enc sz ad xs::L) ad α enc sz xs:=⟨fun _ _ _ s=>Sat.isl_rd s⟩
instance {α:Type}(A:HP)(L:LH)(enc:α→LV)(sz:Nat)(ad:OA)(xs:List α)[h:Rds L ad α enc sz xs]:Rds (A::L) ad α enc sz xs:=⟨fun θ R w s=>h.rd θ R w s.tail⟩
def Sat.freezeSl{α:Type}{θ:Th}{enc:α→LV}{sz E:Nat}{ad:OA}{cap:Nat}{xs:List α}{L:LH}{w:World}(s:Sat θ (osl enc sz E ad cap xs::L) w):Sat θ (isl enc sz ad xs::L) w:=by
 obtain⟨h1,h2,h3,h4⟩:=s.osl_parts;rcases h4 with⟨rfl,rfl⟩|⟨g,a0,rfl,f1,f2,f3⟩
 ·have hx:xs=[]:=List.eq_nil_of_length_eq_zero (by omega);subst hx;obtain⟨ok,ι,h',a,b1,c,d⟩:=s.tail;exact⟨ok,ι,h',a,b1,c,Hp.emp,Hp.emp,h',Hp.a8 _,Hp.c7 _,Hp.a8 _,Hp.sub.refl _,⟨by simp,.inl rfl⟩,d⟩
 ·obtain⟨ok,ι,h,a,b1,c,ι₀,h₁,h₂,d1,d2,d3,d4,d5,d6⟩:=f3.freeze;refine⟨ok,ι,h,a,b1,c,ι₀,h₁,h₂,d1,d2,d3,d4,⟨h1,.inr ⟨g,0,a0,E,(0,0),rfl,d5,?_⟩⟩,d6⟩;intro i v hv;rw[←f2,List.getElem?_take] at hv;split at hv
  ·simpa using hv
  ·cases hv
def lw{α:Type}(enc:α→LV)(sz:Nat)(ad:OA)(xs:List α):Pers (isl enc sz ad xs):=fun _ _ h=>h
def elP(ad:OA)(sz j off:Nat):OA:=ad.map (·.add (j*sz+off))
section ops
variable {P:Program}{N:Nat}{env:Env}{L:LH}{K:Post}{ty:TypeId}{pos:String}{af:Array Edge}
def Ev.move{x:Operand}{v:Value}(hx:evE env x=some v):Ev P L env (.move x) ty (v) :=
 Ev.mk (fun _ _ _ _ ea _ _ _ _ _=>by simp[execOp,aL ea hx])
def Ev.assign{x:Operand}{v:Value}(hx:evE env x=some v):Ev P L env (.assign x) ty (v) :=
 Ev.mk (fun _ _ _ _ ea _ _ _ _ _=>by simp[execOp,aL ea hx])
def Ev.n5{c x y:Operand}{v:Value}(hc:evE env c=some (.bool true))(hx:evE env x=some v):Ev P L env (.pick c x y) ty (v) :=
 Ev.mk (fun _ _ _ _ ea _ _ _ _ _=>by simp[execOp,aL ea hc,aL ea hx,asBool])
def Ev.m8{c x y:Operand}{v:Value}(hc:evE env c=some (.bool false))(hy:evE env y=some v):Ev P L env (.pick c x y) ty (v) :=
 Ev.mk (fun _ _ _ _ ea _ _ _ _ _=>by simp[execOp,aL ea hc,aL ea hy,asBool])
def Ev.extract{x:Operand}{l:LV}{i:Nat}{v:Value}(hx:evE env x=some (.tuple l.toArray))(hi:l[i]? = some v):Ev P L env (.extract x i) ty (v) :=
 Ev.mk (fun _ _ _ _ ea _ _ _ _ _=>by simp[execOp,aL ea hx,Instr.extract,hi])
def wrap_i64{n:Int}(h0 : -9223372036854775808≤n)(h1:n≤9223372036854775807):IntKind.i64.wrap n=n:=by
 exact IntWalk.i64_in _ ⟨h0,h1⟩
def mG{a0:Option Tmp}{g:Option (Nat×Bool)}{op:BinOp}{k:IntKind}{t yt:TypeId}{x y:Operand}{a b:Int}{ρ:Operand→Value}{w:World}{b' : Bool}(hx:ρ x=.int k a)(hy:ρ y=.int k b)
  (a1:(binOp op t (.int k a) (.int k b)).run P w=.ok (.bool b') w):(execOp ρ ⟨a0,.binOp op t x y yt,ty,pos,af,g⟩).run P w=.ok (.value (.bool b')) w:=by
 simp[execOp,hx,hy,a1,eqGuard]
def ip{a0:Option Tmp}{g:Option (Nat×Bool)}{op:BinOp}{k k' : IntKind}{t yt:TypeId}{x y:Operand}{a b c:Int}{ρ:Operand→Value}{w:World}(hx:ρ x=.int k a)(hy:ρ y=.int k' b)
  (a1:(binOp op t (.int k a) (.int k' b)).run P w=.ok (.int k c) w):(execOp ρ ⟨a0,.binOp op t x y yt,ty,pos,af,g⟩).run P w=.ok (.value (.int k c)) w:=by
 simp[execOp,hx,hy,a1,eqGuard]
def Ev.eql{t yt:TypeId}{x y:Operand}{k:IntKind}{a b:Int}(hx:evE env x=some (.int k a))(hy:evE env y=some (.int k b)):Ev P L env (.binOp .eql t x y yt) ty (.bool (dB (a=b))) :=
 Ev.mk (fun _ _ _ w ea _ _ _ _ _=>mG (aL ea hx) (aL ea hy) (by simp[binOp,Op.intCmp,BEq.beq,dK]))
def Ev.neq{t yt:TypeId}{x y:Operand}{k:IntKind}{a b:Int}(hx:evE env x=some (.int k a))(hy:evE env y=some (.int k b)):Ev P L env (.binOp .neq t x y yt) ty (.bool (dB (¬a=b))) :=
 Ev.mk (fun _ _ _ w ea _ _ _ _ _=>mG (aL ea hx) (aL ea hy) (by simp[binOp,Op.intCmp,bne,BEq.beq,dK]))
def Ev.lss{t yt:TypeId}{x y:Operand}{k:IntKind}{a b:Int}(hx:evE env x=some (.int k a))(hy:evE env y=some (.int k b)):Ev P L env (.binOp .lss t x y yt) ty (.bool (dB (a<b))) :=
 Ev.mk (fun _ _ _ w ea _ _ _ _ _=>mG (aL ea hx) (aL ea hy) (by simp[binOp,Op.intCmp,dK]))
def Ev.leq{t yt:TypeId}{x y:Operand}{k:IntKind}{a b:Int}(hx:evE env x=some (.int k a))(hy:evE env y=some (.int k b)):Ev P L env (.binOp .leq t x y yt) ty (.bool (dB (a≤b))) :=
 Ev.mk (fun _ _ _ w ea _ _ _ _ _=>mG (aL ea hx) (aL ea hy) (by simp[binOp,Op.intCmp,dK]))
def Ev.gtr{t yt:TypeId}{x y:Operand}{k:IntKind}{a b:Int}(hx:evE env x=some (.int k a))(hy:evE env y=some (.int k b)):Ev P L env (.binOp .gtr t x y yt) ty (.bool (dB (b<a))) :=
 Ev.mk (fun _ _ _ w ea _ _ _ _ _=>mG (aL ea hx) (aL ea hy) (by simp[binOp,Op.intCmp,dK]))
def Ev.geq{t yt:TypeId}{x y:Operand}{k:IntKind}{a b:Int}(hx:evE env x=some (.int k a))(hy:evE env y=some (.int k b)):Ev P L env (.binOp .geq t x y yt) ty (.bool (dB (b≤a))) :=
 Ev.mk (fun _ _ _ w ea _ _ _ _ _=>mG (aL ea hx) (aL ea hy) (by simp[binOp,Op.intCmp,dK]))
def Ev.add{t yt:TypeId}{x y:Operand}{a b:Int}(hx:evE env x=some (.int .i64 a))(hy:evE env y=some (.int .i64 b))(h0 : -9223372036854775808≤a+b)(h1:a+b≤9223372036854775807):Ev P L env (.binOp .add t x y yt) ty (.int .i64 (a+b)) :=
 Ev.mk (fun _ _ _ w ea _ _ _ _ _=>ip (aL ea hx) (aL ea hy) (by simp[binOp,Op.intArith,wrap_i64 h0 h1]))
def Ev.sub{t yt:TypeId}{x y:Operand}{a b:Int}(hx:evE env x=some (.int .i64 a))(hy:evE env y=some (.int .i64 b))(h0 : -9223372036854775808≤a - b)(h1:a - b≤9223372036854775807):Ev P L env (.binOp .sub t x y yt) ty (.int .i64 (a - b)) :=
 Ev.mk (fun _ _ _ w ea _ _ _ _ _=>ip (aL ea hx) (aL ea hy) (by simp[binOp,Op.intArith,wrap_i64 h0 h1]))
def Ev.mul{t yt:TypeId}{x y:Operand}{a b:Int}(hx:evE env x=some (.int .i64 a))(hy:evE env y=some (.int .i64 b))(h0 : -9223372036854775808≤a*b)(h1:a*b≤9223372036854775807):Ev P L env (.binOp .mul t x y yt) ty (.int .i64 (a*b)) :=
 Ev.mk (fun _ _ _ w ea _ _ _ _ _=>ip (aL ea hx) (aL ea hy) (by simp[binOp,Op.intArith,wrap_i64 h0 h1]))
def Ev.A4{t yt:TypeId}{x y:Operand}{k:IntKind}{a b:Int}(hx:evE env x=some (.int k a))(hy:evE env y=some (.int k b)):Ev P L env (.binOp .add t x y yt) ty (.int k (k.wrap (a+b))) :=
 Ev.mk (fun _ _ _ w ea _ _ _ _ _=>ip (aL ea hx) (aL ea hy) (by simp[binOp,Op.intArith]))
def Ev.A1{t yt:TypeId}{x y:Operand}{k:IntKind}{a b:Int}(hx:evE env x=some (.int k a))(hy:evE env y=some (.int k b)):Ev P L env (.binOp .sub t x y yt) ty (.int k (k.wrap (a - b))) :=
 Ev.mk (fun _ _ _ w ea _ _ _ _ _=>ip (aL ea hx) (aL ea hy) (by simp[binOp,Op.intArith]))
def Ev.A2{t yt:TypeId}{x y:Operand}{k:IntKind}{a b:Int}(hx:evE env x=some (.int k a))(hy:evE env y=some (.int k b)):Ev P L env (.binOp .mul t x y yt) ty (.int k (k.wrap (a*b))) :=
 Ev.mk (fun _ _ _ w ea _ _ _ _ _=>ip (aL ea hx) (aL ea hy) (by simp[binOp,Op.intArith]))
def zn{a b:Int}(h0 : -9223372036854775808≤a)(h1:a≤9223372036854775807)(hb:0<b) : -9223372036854775808≤a.tdiv b∧a.tdiv b≤9223372036854775807:=by
 by_cases ha:0≤a
 ·rw[Int.tdiv_eq_ediv_of_nonneg ha];have h2:=Int.ediv_nonneg ha (Int.le_of_lt hb);have h3:=Int.ediv_le_self b ha;omega
 ·have h4:a.tdiv b = -((-a).tdiv b):=by rw[Int.neg_tdiv,Int.neg_neg]
  rw[h4,Int.tdiv_eq_ediv_of_nonneg (by omega)];have h2:=Int.ediv_nonneg (show 0≤-a by omega) (Int.le_of_lt hb);have h3:=Int.ediv_le_self b (show 0≤-a by omega);omega
def Ev.quo{t yt:TypeId}{x y:Operand}{a b:Int}(hx:evE env x=some (.int .i64 a))(hy:evE env y=some (.int .i64 b))(h0:0≤a)(h1:a≤9223372036854775807)(hb:0<b):Ev P L env (.binOp .quo t x y yt) ty (.int .i64 (a / b)) :=
 Ev.mk (fun _ _ _ w ea _ _ _ _ _=>ip (aL ea hx) (aL ea hy) (by
  have a0 : b≠0:=by omega
  have h2:=Int.ediv_nonneg h0 (Int.le_of_lt hb);have h3:=Int.ediv_le_self b h0;simp[binOp,Op.intDiv,a0,Int.tdiv_eq_ediv_of_nonneg h0,wrap_i64 (show -9223372036854775808≤a / b by omega) (show a / b≤9223372036854775807 by omega)]))
def Ev.x6{t yt:TypeId}{x y:Operand}{a b:Int}(hx:evE env x=some (.int .i64 a))(hy:evE env y=some (.int .i64 b))(h0 : -9223372036854775808≤a)(h1:a≤9223372036854775807)(hb:0<b):Ev P L env (.binOp .quo t x y yt) ty (.int .i64 (a.tdiv b)) :=
 Ev.mk (fun _ _ _ w ea _ _ _ _ _=>ip (aL ea hx) (aL ea hy) (by
  have a0 : b≠0:=by omega
  have h2:=zn h0 h1 hb;simp[binOp,Op.intDiv,a0,wrap_i64 h2.1 h2.2]))
def Ev.rem{t yt:TypeId}{x y:Operand}{k:IntKind}{a b:Int}(hx:evE env x=some (.int k a))(hy:evE env y=some (.int k b))(h0:0≤a)(hb:0<b):Ev P L env (.binOp .rem t x y yt) ty (.int k (a % b)) :=
 Ev.mk (fun _ _ _ w ea _ _ _ _ _=>ip (aL ea hx) (aL ea hy) (by
  have a0 : b≠0:=by omega
  simp[binOp,Op.intDiv,a0,Int.tmod_eq_emod_of_nonneg h0]))
def Ev.w9{t yt:TypeId}{x y:Operand}{k:IntKind}{a b:Int}(hx:evE env x=some (.int k a))(hy:evE env y=some (.int k b))(hb:b≠0):Ev P L env (.binOp .rem t x y yt) ty (.int k (a.tmod b)) :=
 Ev.mk (fun _ _ _ w ea _ _ _ _ _=>ip (aL ea hx) (aL ea hy) (by simp[binOp,Op.intDiv,hb]))
def Ev.neg{t:TypeId}{x:Operand}{a:Int}(hx:evE env x=some (.int .i64 a))(h0 : -9223372036854775807≤a)(h1:a≤9223372036854775807):Ev P L env (.unOp .neg t x) ty (.int .i64 (-a)) :=
 Ev.mk (fun _ _ _ w ea _ _ _ _ _=>by
  have hw:IntKind.i64.wrap (0 - a) = -a:=by rw[wrap_i64 (by omega) (by omega)];omega
  simp[execOp,aL ea hx,Op.unary,Op.intArith] at hw ⊢;exact hw)
def Ev.not{t:TypeId}{x:Operand}{φ:Prop}[Decidable φ](hx:evE env x=some (.bool (dB φ))):Ev P L env (.unOp .not t x) ty (.bool (dB (¬φ))) :=
 Ev.mk (fun _ _ _ w ea _ _ _ _ _=>by simp[execOp,aL ea hx,Op.unary,dK])
def Ev.o0{t:TypeId}{x:Operand}{b:Bool}(hx:evE env x=some (.bool b)):Ev P L env (.unOp .not t x) ty (.bool (!b)) :=
 Ev.mk (fun _ _ _ w ea _ _ _ _ _=>by simp[execOp,aL ea hx,Op.unary])
def Ev.x8{t:TypeId}{x:Operand}(hx:evE env x=some (.bool true)):Ev P L env (.unOp .not t x) ty (.bool false):=Ev.o0 hx
def Ev.x9{t:TypeId}{x:Operand}(hx:evE env x=some (.bool false)):Ev P L env (.unOp .not t x) ty (.bool true):=Ev.o0 hx
def Ev.conv{s t:TypeId}{x:Operand}{k k' : IntKind}{a:Int}[hs:TyInt P s k][ht:TyInt P t k'](hx:evE env x=some (.int k a)):Ev P L env (.convert s t x) ty (.int k' (k'.wrap a)) :=
 Ev.mk (fun _ _ _ w ea _ _ _ _ _=>by simp[execOp,aL ea hx,convert,run_underlying hs.under,run_underlying ht.under,Conv.intToInt])
def Ev.min2{x y:Operand}{ats:Array TypeId}{k k' : IntKind}{a b:Int}(hx:evE env x=some (.int k a))(hy:evE env y=some (.int k' b)):Ev P L env (.call { callee:=.builtin .min,args:=#[x,y],argTypes:=ats }) ty (.int k (min a b)) :=
 Ev.mk (fun _ _ _ w ea _ _ _ _ _=>by
  have hm:(if b<a then b else a)=min a b:=by split<;>omega
  simp[execOp,resolve,invoke,builtin,aL ea hx,aL ea hy,Builtin.min_,Builtin.min2,hm])
def Ev.max2{x y:Operand}{ats:Array TypeId}{k k' : IntKind}{a b:Int}(hx:evE env x=some (.int k a))(hy:evE env y=some (.int k' b)):Ev P L env (.call { callee:=.builtin .max,args:=#[x,y],argTypes:=ats }) ty (.int k (max a b)) :=
 Ev.mk (fun _ _ _ w ea _ _ _ _ _=>by
  have hm:(if a<b then b else a)=max a b:=by split<;>omega
  have a0 : (if b>a then b else a)=max a b:=by split<;>omega
  simp[execOp,resolve,invoke,builtin,aL ea hx,aL ea hy,Builtin.max_,Builtin.max2];first|exact hm|exact a0 | omega)
def Ev.nilCheck{x:Operand}{a:Addr}(hx:evE env x=some (.pointer (some a))):Ev P L env (.nilCheck x) ty (.pointer (some a)) :=
 Ev.mk (fun _ _ _ w ea _ _ _ _ _=>by simp[execOp,aL ea hx])
def kD{t:TypeId}{u v:Value}{r:Bool}{w:World}(h:∀n,(Op.equalIn (n+1) t u v).run P w=.ok r w):(Op.equal t u v).run P w=.ok r w:=h 9999
def mT{t e:TypeId}{p q:OA}{w:World}{n:Nat}(he:P.underlying t=some (.pointer e))(hq:p=none∨q=none):(Op.equalIn (n+1) t (.pointer p) (.pointer q)).run P w=.ok (decide (p=q)) w:=by
 rcases hq with rfl|rfl
 ·cases q<;>simp[Op.equalIn,run_underlying he]
 ·cases p<;>simp[Op.equalIn,run_underlying he]
def zx{t e:TypeId}{ad:OA}{k c:Nat}{w:World}{n:Nat}(he:P.underlying t=some (.slice e)):(Op.equalIn (n+1) t (.slice ad k c) (.slice none 0 0)).run P w=.ok (decide (ad=none)) w:=by
 cases ad<;>simp[Op.equalIn,run_underlying he]
def Ev.t7{t yt:TypeId}{x y:Operand}{a:Addr}[ht:TyPtr P t](hx:evE env x=some (.pointer (some a)))(hy:evE env y=some (.pointer none)):Ev P L env (.binOp .eql t x y yt) ty (.bool false) :=
 Ev.mk (fun _ _ _ w ea _ _ _ _ _=>by
  obtain⟨e,he⟩:=ht.under;have h1:=kD (P:=P) (w:=w) (fun n=>mT (n:=n) (p:=some a) (q:=none) he (.inr rfl));simp[execOp,aL ea hx,aL ea hy,eqGuard,binOp,h1])
def Ev.r8{t yt:TypeId}{x y:Operand}{a:Addr}[ht:TyPtr P t](hx:evE env x=some (.pointer (some a)))(hy:evE env y=some (.pointer none)):Ev P L env (.binOp .neq t x y yt) ty (.bool true) :=
 Ev.mk (fun _ _ _ w ea _ _ _ _ _=>by
  obtain⟨e,he⟩:=ht.under;have h1:=kD (P:=P) (w:=w) (fun n=>mT (n:=n) (p:=some a) (q:=none) he (.inr rfl));simp[execOp,aL ea hx,aL ea hy,eqGuard,binOp,h1])
def Ev.o8{t yt:TypeId}{x y:Operand}[ht:TyPtr P t](hx:evE env x=some (.pointer none))(hy:evE env y=some (.pointer none)):Ev P L env (.binOp .eql t x y yt) ty (.bool true) :=
 Ev.mk (fun _ _ _ w ea _ _ _ _ _=>by
  obtain⟨e,he⟩:=ht.under;have h1:=kD (P:=P) (w:=w) (fun n=>mT (n:=n) (p:=none) (q:=none) he (.inr rfl));simp[execOp,aL ea hx,aL ea hy,eqGuard,binOp,h1])
def Ev.v8{t yt:TypeId}{x y:Operand}{ad:OA}{n c E sz bb:Nat}{z:LV}[ht:TySl P t E sz bb z](hx:evE env x=some (.slice ad n c))(hy:evE env y=some (.slice none 0 0)):Ev P L env (.binOp .eql t x y yt) ty (.bool (dB (ad=none))) :=
 Ev.mk (fun _ _ _ w ea _ _ _ _ _=>by
  have h1:=kD (P:=P) (w:=w) (fun m=>zx (n:=m) (ad:=ad) (k:=n) (c:=c) ht.under);simp[execOp,aL ea hx,aL ea hy,eqGuard,binOp,h1,dK])
def pR{s f:Nat}{off:Nat}[hf:Fld P s f off]{a:Addr}{w:World}:(Instr.fieldAt s (.pointer (some a)) f).run P w=.ok (.pointer (some (a.add off))) w:=by
 obtain⟨fs,fd,i,h1,h2,h3,h4,h5⟩:=hf.run;subst h3;simp[Instr.fieldAt,run_underlying h1,h2,Instr.sureAddr,fieldPlace,sizeOf,typeInfo,h4,h5]
def Ev.fieldAddr{s f:Nat}{x:Operand}{b off:Nat}[Fld P s f off](hx:evE env x=some (.pointer (some ⟨b,0,none⟩))):Ev P L env (.fieldAddr s x f) ty (.pointer (some ⟨b,off,none⟩)) :=
 Ev.mk (fun _ _ _ w ea _ _ _ _ _=>by simp[execOp,aL ea hx,pR,fZ])
def Ev.f8{s f:Nat}{x:Operand}{b o off:Nat}[Fld P s f off](hx:evE env x=some (.pointer (some ⟨b,o,none⟩))):Ev P L env (.fieldAddr s x f) ty (.pointer (some ⟨b,o+off,none⟩)) :=
 Ev.mk (fun _ _ _ w ea _ _ _ _ _=>by simp[execOp,aL ea hx,pR,iR])
def Ev.d9{s f:Nat}{x:Operand}{ad:OA}{sz j off:Nat}[Fld P s f off]{α:Type}{enc:α→LV}{xs:List α}[hr:Rds L ad α enc sz xs](hx:evE env x=some (.pointer (elP ad sz j 0)))(hj:j<xs.length):Ev P L env (.fieldAddr s x f) ty (.pointer (elP ad sz j off)) :=
 Ev.mk (fun θ R _ w ea s _ _ _ _=>by
  obtain⟨_,h2⟩:=hr.rd θ R w s;rcases h2 with h2|⟨a,rfl,_⟩
  ·subst h2;simp at hj
  ·have e:(a.add (j*sz+0)).add off=a.add (j*sz+off):=by
    unfold Addr.add;(repeat' split)<;>first|rfl|omega|(simp;omega)|(simp_all;done)
   simp only[Nat.add_zero] at e;simp[execOp,aL ea hx,elP,pR,e])
def Ev.indexAddr{t:TypeId}{x i:Operand}{ad:OA}{n c E sz bb:Nat}{z:LV}{j:Int}{k:IntKind}{α:Type}{enc:α→LV}{xs:List α}[ht:TySl P t E sz bb z][hr:Rds L ad α enc sz xs]
  (hx:evE env x=some (.slice ad n c)) (hi:evE env i=some (.int k j)) (h0:0≤j) (h1:j<n) (hn:n≤xs.length):Ev P L env (.indexAddr t x i) ty (.pointer (elP ad sz j.toNat 0)) :=
 Ev.mk (fun θ R _ w ea s _ _ _ _=>by
  obtain⟨_,h2⟩:=hr.rd θ R w s;obtain⟨ii,z0,i1,i2,i3,i4,i5⟩:=ht.parts;rcases h2 with h2|⟨a,rfl,_⟩
  ·subst h2;simp at hn;omega
  ·simp[execOp,aL ea hx,aL ea hi,Instr.indexAt,asIntOf,run_underlying ht.under,h0,h1,sizeOf,typeInfo,i1,i4,elP])
def Ev.j5{t:TypeId}{x i:Operand}{b n c E sz bb:Nat}{z:LV}{j:Int}{k:IntKind}[ht:TySl P t E sz bb z]
  (hx:evE env x=some (.slice (some ⟨b,0,none⟩) n c)) (hi:evE env i=some (.int k j)) (h0:0≤j) (h1:j<n):Ev P L env (.indexAddr t x i) ty (.pointer (some ⟨b,j.toNat*sz,none⟩)) :=
 Ev.mk (fun θ R _ w ea s _ _ _ _=>by
  obtain⟨ii,z0,i1,i2,i3,i4,i5⟩:=ht.parts;simp[execOp,aL ea hx,aL ea hi,Instr.indexAt,asIntOf,run_underlying ht.under,h0,h1,sizeOf,typeInfo,i1,i4,fZ])
def Sat.obj_heap{θ:Th}{b T:Nat}{cs:LV}{L R:LH}{w:World}(s:Sat θ (L++R) w){Rest:LH}(hp:L.Perm (obj b T cs::Rest)):w.heap[b]? = some (.cells cs.toArray T (0,0)) :=
 (s.perm (hp.append_right R)).own_heap
def Ev.c8{t:TypeId}{x:Operand}{b k T:Nat}{cs:LV}{Rest:LH}{v:Value}[ht:TyOne P t][hp:PickObj L b T cs Rest](hx:evE env x=some (.pointer (some ⟨b,k,none⟩)))(hv:cs[k]? = some v):Ev P L env (.load t x) ty (v) :=
 Ev.mk (fun θ R _ w ea s _ _ _ _=>by
  have hb:=s.obj_heap hp.perm;simp[execOp,aL ea hx,Instr.loadAt,Instr.sureAddr,loadVar,ht.run,eD hb,hv])
def Ev.d7{t:TypeId}{x:Operand}{b T n:Nat}{cs:LV}{Rest:LH}[ht:TyAgg P t n][hp:PickObj L b T cs Rest](hx:evE env x=some (.pointer (some ⟨b,0,none⟩)))(hn:cs.length=n):Ev P L env (.load t x) ty (.agg cs.toArray) :=
 Ev.mk (fun θ R _ w ea s _ _ _ _=>by
  have hb:=s.obj_heap hp.perm;have hl:=run_loadCells_list (P:=P) w ⟨b,0,none⟩ cs (fun j v hv=>by rw[fZ,eD hb];simpa using hv);rw[hn] at hl;simp[execOp,aL ea hx,Instr.loadAt,Instr.sureAddr,loadVar,ht.run,TyAgg.sizeOf_run,hl])
def Ev.f7{t:TypeId}{x:Operand}{ad:OA}{sz j o:Nat}{α:Type}[Inhabited α]{enc:α→LV}{xs:List α}{v:Value}[ht:TyOne P t][hr:Rds L ad α enc sz xs]
  (hx:evE env x=some (.pointer (elP ad sz j o))) (hj:j<xs.length) (ho:o<sz) (hv:(enc xs[j]!)[o]? = some v):Ev P L env (.load t x) ty (v) :=
 Ev.mk (fun θ R _ w ea s _ _ _ _=>by
  obtain⟨h1,h2⟩:=hr.rd θ R w s;rcases h2 with h2|⟨a,rfl,h3⟩
  ·subst h2;simp at hj
  ·have h4:=h3 (j*sz+o) v (by rw[mX h1 hj ho];exact hv);simp[execOp,aL ea hx,elP,Instr.loadAt,Instr.sureAddr,loadVar,ht.run,h4])
def Ev.d8{t:TypeId}{x:Operand}{ad:OA}{sz j:Nat}{α:Type}[Inhabited α]{enc:α→LV}{xs:List α}[ht:TyAgg P t sz][hr:Rds L ad α enc sz xs]
  (hx:evE env x=some (.pointer (elP ad sz j 0))) (hj:j<xs.length):Ev P L env (.load t x) ty (.agg (enc xs[j]!).toArray) :=
 Ev.mk (fun θ R _ w ea s _ _ _ _=>by
  obtain⟨h1,h2⟩:=hr.rd θ R w s;rcases h2 with h2|⟨a,rfl,h3⟩
  ·subst h2;simp at hj
  ·have a0:(enc xs[j]!).length=sz:=h1 _ (by rw[List.getElem!_eq_getElem?_getD,List.getElem?_eq_getElem hj];simp)
   have hl:=run_loadCells_list (P:=P) w (a.add (j*sz)) (enc xs[j]!) (fun o v hv=>by
    have ho:o<sz:=by rw[←a0];exact(List.getElem?_eq_some_iff.1 hv).1
    have e:(a.add (j*sz)).add o=a.add (j*sz+o):=by
     unfold Addr.add;(repeat' split)<;>first|rfl|omega|(simp;omega)|(simp_all;done)
    rw[e];exact h3 _ v (by rw[mX h1 hj ho];exact hv))
   rw[a0] at hl;simp[execOp,aL ea hx,elP,Instr.loadAt,Instr.sureAddr,loadVar,ht.run,TyAgg.sizeOf_run,hl])
def me{w:World}{b k:Nat}{cs:Array Value}{T:TypeId}{fz:Nat×Nat}(v:Value)(h:w.heap[b]? = some (.cells cs T fz)):(w.setCell ⟨b,k,none⟩ v).heap[b]? = some (.cells (cs.setIfInBounds k v) T fz):=by
 simp[World.setCell,Array.getElem?_modify,h]
def lS{w:World}{b k j:Nat}(v:Value)(h:j≠b):(w.setCell ⟨b,k,none⟩ v).heap[j]? = w.heap[j]?:=by
 simp only[World.setCell,Array.getElem?_modify];rw[if_neg (by omega)]
def pq:LV→Nat→Value→(LV→Option (LV))→Option (LV)
 | [],_,_,_=>none
 | _::cs,0,v,k=>k (v::cs)
 | c::cs,n+1,v,k=>pq cs n v fun r=>k (c::r)
def sH:∀(cs:LV) (n:Nat) (v:Value) (k:LV→Option (LV)) (r:LV),pq cs n v k=some r→n<cs.length∧k (cs.set n v)=some r
 | [],_,_,_,_,h=>by simp[pq] at h
 | _::cs,0,v,k,r,h=>by simpa [pq] using h
 | c::cs,n+1,v,k,r,h=>by
  have:=sH cs n v (fun r=>k (c::r)) r (by simpa [pq] using h)
  simpa using this
def Ef.j0{t:TypeId}{x y:Operand}{b k T:Nat}{cs a3 : LV}{Rest:LH}{v:Value}[ht:TyOne P t][hp:PickObj L b T cs Rest](hx:evE env x=some (.pointer (some ⟨b,k,none⟩)))(hy:evE env y=some v)(h1:v.oneCell' = true)(a4:pq cs k v some=some a3)
  : Ef P L env (.store t x y) ty (fun _ L'=>L' = obj b T a3::Rest) :=
 Ef.skip (fun θ R a w ea s a7 pos af g=>by
  have s1:=s.perm (hp.perm.append_right R);have hb:w.heap[b]? = some (.cells cs.toArray T (0,0)):=s1.own_heap;obtain⟨a9,a1⟩:=sH _ _ _ _ _ a4;have a2:cs.set k v=a3:=by simpa using a1
  subst a2;have a0:w.cell? ⟨b,k,none⟩=some cs[k]:=by rw[eD hb];simp
  have a6:w.frozen? ⟨b,k,none⟩=false:=by simp[World.frozen?,hb]
  have a5:v.cells=#[v]:=by cases v<;>first|rfl|cases h1
  refine⟨w.setCell ⟨b,k,none⟩ v,_,?_,rfl,?_⟩
  ·simp[execOp,aL ea hx,aL ea hy,Instr.storeAt,Instr.sureAddr,storeVar,TyOne.sizeOf_run,a5,storeCells,Addr.add,run_store _ _ _ _ _ h1,a0,a6]
  ·refine Sat.update s1 ⟨s.1.tape,s.1.os,s.1.output,s.1.drawn⟩ ?_ (fun j x hj hx=>by rw[lS v hj];exact hx);rw[me v hb];simp)
def Ef.g9{t:TypeId}{x y:Operand}{b T n:Nat}{cs vs:LV}{Rest:LH}[ht:TyAgg P t n][hp:PickObj L b T cs Rest](hx:evE env x=some (.pointer (some ⟨b,0,none⟩)))(hy:evE env y=some (.agg vs.toArray))(hn:vs.length=n)(hc:cs.length=n)(h1:∀v∈vs,v.oneCell' = true)
  : Ef P L env (.store t x y) ty (fun _ L'=>L' = obj b T vs::Rest) :=
 Ef.skip (fun θ R a w ea s a1 pos af g=>by
  have s1:=s.perm (hp.perm.append_right R);have hb:w.heap[b]? = some (.cells cs.toArray T (0,0)):=s1.own_heap;have a0:=run_storeCells_at P b 0 T vs 0 cs.toArray w hb (by simp;omega) h1;refine⟨w.setRow b vs.toArray,_,?_,rfl,?_⟩
  ·simp[execOp,aL ea hx,aL ea hy,Instr.storeAt,Instr.sureAddr,storeVar,TyAgg.sizeOf_run,Value.cells,hn] at a0 ⊢;rw[a0];simp[show List.drop n cs=[] by rw[←hc];simp]
  ·exact Sat.update s1 ⟨s.1.tape,s.1.os,s.1.output,s.1.drawn⟩ (setRow_heap w b _ _ T _ hb) (fun j x hj hx=>by rw[setRow_other w b j _ hj];exact hx))
def Ef.j8{t:TypeId}{x:Operand}{vs:LV}(hx:evE env x=some (.agg vs.toArray)):Ef P L env (.box t x) ty (fun v L'=>∃b,v=.pointer (some ⟨b,0,none⟩)∧L' = obj b t vs::L) :=
 Ef.val (fun θ R a w ea s a0 pos af g=>⟨_,w.alloc (.cells vs.toArray t),_,by simp[execOp,aL ea hx,Instr.box,newVar,newRow,Value.cells],⟨_,rfl,rfl⟩,s.alloc⟩)
def Ef.k9{t:TypeId}{x:Operand}{v:Value}(hx:evE env x=some v)(h1:v.oneCell' = true):Ef P L env (.box t x) ty (fun u L'=>∃b,u=.pointer (some ⟨b,0,none⟩)∧L' = obj b t [v]::L) :=
 Ef.val (fun θ R a w ea s a1 pos af g=>⟨_,w.alloc (.cells #[v] t),_,by
  have a0:v.cells=#[v]:=by cases v<;>first|rfl|cases h1
  simp[execOp,aL ea hx,Instr.box,newVar,newRow,a0],⟨_,rfl,rfl⟩,s.alloc⟩)
class ZeroT (P:Program) (T:Nat) (z:outParam (LV)):Prop where
 zero:(P.info? T).map (fun i=>i.zero.map (·.cells.toList))=some (some z)
def ZeroT.run{P:Program}{T:Nat}{z:LV}[h:ZeroT P T z](w:World):∃z0,(zeroValue T).run P w=.ok z0 w∧z0.cells=z.toArray:=by
 have h1:=h.zero;cases hi:P.info? T with
 | none=>rw[hi] at h1;cases h1
 | some i =>
  rw[hi] at h1;simp at h1;obtain⟨z0,hz,a0⟩:=h1;exact⟨z0,by simp[zeroValue,typeInfo,hi,hz],by rw[←a0]⟩
def Ef.alloc{t:TypeId}{z:LV}[hz:ZeroT P t z]:Ef P L env (.alloc t) ty (fun u L'=>∃b,u=.pointer (some ⟨b,0,none⟩)∧L' = obj b t z::L) :=
 Ef.val (fun θ R a w ea s a0 pos af g=>⟨_,w.alloc (.cells z.toArray t),_,by
  obtain⟨z0,h1,h2⟩:=hz.run w;simp[execOp,Instr.alloc,h1,newVar,newRow,h2],⟨_,rfl,rfl⟩,s.alloc⟩)
def rW(z:LV)(sz len:Nat)(parts:List (Nat×Value)):Option (LV) :=
 (Instr.fill (fun i=>some (i*sz,sz)) ((Array.range (len*sz)).map (z.toArray[· % z.length]!)) parts).map (·.toList)
def Ef.buildSlice{t:TypeId}{len:Nat}{ps:Array (Nat×Operand)}{vs:List (Nat×Value)}{E sz bb:Nat}{z cs:LV}[ht:TySl P t E sz bb z](hv:kH env ps.toList=some vs)(hl:len*sz≤16777216)(hc:rW z sz len vs=some cs)
  : Ef P L env (.buildSlice t len ps) ty (fun v L'=>∃b,v=.slice (some ⟨b,0,none⟩) len len∧L' = obj b E cs::L) :=
 Ef.val (fun θ R a w ea s a4 pos af g=>⟨.slice (some ⟨w.heap.size,0,none⟩) len len,w.alloc (.cells cs.toArray E),_,by
  obtain⟨ii,z0,i1,i2,i3,i4,i5⟩:=ht.parts
  have a0:ps.map (fun p=>(p.1,a p.2))=vs.toArray:=by
   apply Array.ext';simpa using ea.pairs ps.toList vs hv
  have hz:z0.cells=z.toArray:=by rw[←i3]
  simp only[rW,Option.map_eq_some_iff] at hc;obtain⟨ar,a1,a3⟩:=hc;subst a3;have a2:¬len*sz>2 ^ 24:=by omega
  simp only[execOp,a0,Instr.buildSlice,Sem.run_bind,run_underlying ht.under,Result.andThen_ok,sizeOf,typeInfo,run_program,i1,Sem.run_pure,i4,a2,if_false,zeroValue];by_cases h0:len*sz=0
  ·simp only[h0,if_true];have e0:(Array.range 0:Array Nat)=#[]:=rfl;simp only[h0,e0,List.map_toArray,List.map_nil] at a1 ⊢;simp only[a1];simp[newRow]
  ·simp only[h0,if_false,Sem.run_bind,run_program,Result.andThen_ok,i1,Sem.run_pure,i2,hz,List.size_toArray];simp only[a1];simp[newRow],⟨_,rfl,rfl⟩,s.alloc⟩)
def Ev.w4{t:TypeId}{x:Operand}{ad:OA}{n c E sz bb:Nat}{z:LV}[ht:TySl P t E sz bb z](hx:evE env x=some (.slice ad n c)):Ev P L env (.call { callee:=.builtin .len,args:=#[x],argTypes:=#[t] }) ty (.int .i64 (n:Int)) :=
 Ev.mk (fun _ _ _ w ea _ _ _ _ _=>by simp[execOp,resolve,invoke,builtin,aL ea hx,Builtin.len_,run_underlying ht.under,goInt])
def rU{α:Type}{θ:Th}{enc:α→LV}{sz E:Nat}{ad:OA}{cap:Nat}{xs:List α}{L:LH}{w:World}(s:Sat θ (osl enc sz E ad cap xs::L) w):w.ownsRow 0 E sz (.slice ad xs.length cap) xs.length (xs.flatMap enc):=by
 obtain⟨h1,h2,h3,h4⟩:=s.osl_parts;refine⟨dm h1,?_⟩;rcases h4 with⟨rfl,rfl⟩|⟨g,a0,rfl,f1,f2,f3⟩
 ·left;have:xs.length=0:=by omega
  simp[this]
 ·exact .inr ⟨g,cap,a0,rfl,Nat.zero_le _,f3.own_heap,h2,h3,f1,f2⟩
def qc{α:Type}{θ:Th}{enc:α→LV}{sz E:Nat}{ad:OA}{cap:Nat}{xs ys:List α}{L:LH}{w w' : World}(s:Sat θ (osl enc sz E ad cap xs::L) w)(hy:∀x∈ys,(enc x).length=sz){v' : Value}
  (ho:w'.ownsRow 0 E sz v' (xs.length+ys.length) (xs.flatMap enc++ys.flatMap enc)) (hg:w.grownBy w' (Value.ownBlock (.slice ad xs.length cap))) (b9:w.drawn≤w'.drawn) (a3:v'.ownBlock=Value.ownBlock (.slice ad xs.length cap)∨v'.ownBlock=some w.heap.size) :
  ∃b3 a0,v' = .slice b3 (xs++ys).length a0∧Sat θ (osl enc sz E b3 a0 (xs++ys)::L) w':=by
 obtain⟨h1,h2,h3,h4⟩:=s.osl_parts
 have a7:∀x∈xs++ys,(enc x).length=sz:=fun x hx=>by
  rcases List.mem_append.1 hx with hx|hx
  ·exact h1 x hx
  ·exact hy x hx
 have ok:θ.ok w':=⟨by rw[hg.tape];exact s.1.tape,by rw[hg.os];exact s.1.os,by rw[hg.output];exact s.1.output,Nat.le_trans s.1.drawn b9⟩;rcases ho.2 with⟨rfl,hn⟩|⟨g,a0,b4,rfl,_,a9,c0,b7,b8,a4⟩
 ·have hx:xs=[]:=List.eq_nil_of_length_eq_zero (by omega);have hy:ys=[]:=List.eq_nil_of_length_eq_zero (by omega);subst hx hy;refine⟨none,0,rfl,Sat.d7 enc sz E ?_⟩;refine s.tail.keep ok (fun k o hk=>?_);have a5:k<w.heap.size:=(Array.getElem?_eq_some_iff.1 hk).1;by_cases a2:some k=Value.ownBlock (.slice ad ([]:List α).length cap)
  ·rcases h4 with⟨rfl,rfl⟩|⟨g,b4,rfl,f1,f2,f3⟩
   ·simp[Value.ownBlock] at a2
   ·simp[Value.ownBlock] at a2 a3
  ·rw[hg.block k a5 a2];exact hk
 ·refine⟨some ⟨g,0,none⟩,a0,by simp,?_⟩;have b0:(xs++ys).length=xs.length+ys.length:=by simp
  have b6:Sat θ (own g (.cells b4 E (0,0))::L) w'→Sat θ (osl enc sz E (some ⟨g,0,none⟩) a0 (xs++ys)::L) w':=fun s' =>
   s'.osl_mk a7 (by omega) b7 b8 (by rw[b0,a4];simp)
  apply b6;simp only[Value.ownBlock] at a3 hg;rcases h4 with⟨rfl,rfl⟩|⟨g0,b5,rfl,f1,f2,f3⟩
  ·simp at a3;subst a3;exact s.tail.fresh ok (Nat.le_refl _) a9 (fun k x hk=>by rw[hg.block k (Array.getElem?_eq_some_iff.1 hk).1 (by simp)];exact hk)
  ·simp at a3;rcases a3 with rfl|rfl
   ·exact f3.update ok a9 (fun k x hk hx=>by rw[hg.block k (Array.getElem?_eq_some_iff.1 hx).1 (by simpa using hk)];exact hx)
   ·have s5:=f3.tail
    have c1:g0≠w.heap.size:=by
     have:=(Array.getElem?_eq_some_iff.1 f3.own_heap).1
     omega
    -- the old row is given up
    obtain⟨a6,ι,h,a,b1,c,ι₀,h₁,h₂,d1,d2,d3,d4,d5,d6⟩:=f3
    have s6:Sat θ L { w with heap:=w.heap.setIfInBounds g0 ((w'.heap[g0]?).getD default) }:=by
     refine⟨⟨a6.tape,a6.os,a6.output,a6.drawn⟩,ι,h₂,a.mono (Hp.sub.refl _) d4,?_,?_,d6⟩
     ·intro k o hk
      have a1:k≠g0:=by
       rintro rfl;have:=a k o hk
       rw[d3 k _ d5] at this;cases this
      have:=b1 k o hk
      simp only[im] at this ⊢;rw[Array.getElem?_setIfInBounds_ne (Ne.symm a1)];exact this
     ·intro k o hk
      have a1:k≠g0:=by
       rintro rfl;have:=d2 k _ d5
       rw[hk] at this;cases this
      have:=c k o (d4 k o hk)
      simp only[im] at this ⊢;rw[Array.getElem?_setIfInBounds_ne (Ne.symm a1)];exact this
    refine s6.fresh ok (by simp) a9 (fun k x hk=>?_);by_cases a1:k=g0
    ·subst a1
     have a5:k<w.heap.size:=by
      have:=c k _ (d3 k _ d5)
      exact(Array.getElem?_eq_some_iff.1 this).1
     simp[a5] at hk;have b2 : k<w'.heap.size:=Nat.lt_of_lt_of_le a5 hg.size;rw[Array.getElem?_eq_getElem b2] at hk ⊢;simpa using hk
    ·simp only at hk;rw[Array.getElem?_setIfInBounds_ne (Ne.symm a1)] at hk;rw[hg.block k (Array.getElem?_eq_some_iff.1 hk).1 (by simpa using a1)];exact hk
def Ef.a8{t:TypeId}{x y:Operand}{α:Type}{enc:α→LV}{ad:OA}{n c sz E bb cap b T:Nat}{xs:List α}{z cs:LV}{R1 R2:LH}(e:α)[ht:TySl P t E sz bb z][hp:PickOsl L ad α enc sz E cap xs R1][hq:PickObj R1 b T cs R2]
  (hx:evE env x=some (.slice ad n c)) (hy:evE env y=some (.slice (some ⟨b,0,none⟩) 1 1)) (he:cs=enc e) (hn:n=xs.length) (hc:c=cap) (hs:cs.length=sz) (h1:∀u∈cs,u.oneCell' = true) (hb:(xs.length+1)*bb≤140737488355328) (hm:xs.length+1≤9223372036854775807)
  : Ef P L env (.call { callee:=.builtin .append,args:=#[x,y],argTypes:=#[t,t] }) ty (fun v L'=>∃a1 a0,v=.slice a1 (xs++[e]).length a0∧L' = osl enc sz E a1 a0 (xs++[e])::R2) :=
 Ef.val (fun θ R a w ea s a4 pos af g=>by
  subst hn hc he;have s1:=s.perm (hp.perm.append_right R);have a2:=rU s1;have a3:=Sat.obj_heap (R:=R) (show Sat θ (R1++R) w from s1.tail) hq.perm;obtain⟨ii,z0,i1,i2,i3,i4,i5⟩:=ht.parts;obtain⟨v',w',hr,h2,h3,_,h5⟩:=run_append_own_at (P:=P) w 0 t ty E ii z0 sz bb ht.under i1 i2 i4 i5 (by rw[←ht.zlen,←i3];simp) ht.pos _ _ _ a2 ⟨b,0,none⟩ 1 1 (enc e) (by omega) (fun j u hu=>by rw[fZ,eD a3];simpa using hu) h1 (by simp only[maxLen];omega) hb (Nat.zero_le _);obtain⟨a1,a0,rfl,s2⟩:=qc (ys:=[e]) s1 (by simpa using hs) (by simpa using h2) h3 (lT _ hr) h5;refine⟨_,w',_,?_,⟨a1,a0,rfl,rfl⟩,?_⟩
  ·simp[execOp,resolve,invoke,builtin,aL ea hx,aL ea hy,hr]
  ·have s3:Sat θ (osl enc sz E a1 a0 (xs++[e])::(obj b T (enc e)::R2++R)) w':=s2.perm ((hq.perm.append_right R).cons _);exact(s3.perm (List.Perm.swap _ _ _)).tail)
def Ef.d7{t:TypeId}{x y:Operand}{α:Type}{enc:α→LV}{ad a4:OA}{n c n2 c2 sz E bb cap:Nat}{xs ys:List α}{z:LV}{R1:LH}[ht:TySl P t E sz bb z][hp:PickOsl L ad α enc sz E cap xs R1][hq:Rds R1 a4 α enc sz ys]
  (hx:evE env x=some (.slice ad n c)) (hy:evE env y=some (.slice a4 n2 c2)) (hn:n=xs.length) (hc:c=cap) (a9:n2=ys.length) (h1:∀e∈ys,∀u∈enc e,u.oneCell' = true) (hb:(xs.length+ys.length)*bb≤140737488355328) (hm:xs.length+ys.length≤9223372036854775807)
  : Ef P L env (.call { callee:=.builtin .append,args:=#[x,y],argTypes:=#[t,t] }) ty (fun v L'=>∃a3 a0,v=.slice a3 (xs++ys).length a0∧L' = osl enc sz E a3 a0 (xs++ys)::R1) :=
 Ef.val (fun θ R a w ea s b0 pos af g=>by
  subst hn hc a9;have s1:=s.perm (hp.perm.append_right R);have a6:=rU s1;obtain⟨g1,g2⟩:=hq.rd θ R w s1.tail;obtain⟨ii,z0,i1,i2,i3,i4,i5⟩:=ht.parts
  have a7 : ∀u∈ys.flatMap enc,u.oneCell' = true:=fun u hu=>by
   obtain⟨e,he,hu⟩:=List.mem_flatMap.1 hu;exact h1 e he u hu
  rcases a4 with _|a2
  ·rcases g2 with g2|⟨a,ha,_⟩
   ·subst g2;refine⟨.slice ad xs.length c,w,_,?_,⟨ad,c,by simp,rfl⟩,by simpa using s1⟩;have a5:xs.length≤c:=s1.osl_parts.2.1;simp[execOp,resolve,invoke,builtin,aL ea hx,aL ea hy,Builtin.append_,run_underlying ht.under,sizeOf,typeInfo,i1,Builtin.lenOf,a5,Builtin.firstCells];cases ad<;>simp[storeCells]
   ·cases ha
  ·have a1:∀j u,(ys.flatMap enc)[j]? = some u→w.cell? (a2.add j)=some u:=by
    rcases g2 with g2|⟨a,ha,g3⟩
    ·subst g2;simp
    ·cases ha;exact g3
   obtain⟨v',w',hr,h2,h3,_,h5⟩:=run_append_own_at (P:=P) w 0 t ty E ii z0 sz bb ht.under i1 i2 i4 i5 (by rw[←ht.zlen,←i3];simp) ht.pos _ _ _ a6 a2 ys.length c2 (ys.flatMap enc) (dm g1) a1 a7 (by simp only[maxLen];omega) hb (Nat.zero_le _);obtain⟨a3,a0,rfl,s2⟩:=qc (ys:=ys) s1 g1 h2 h3 (lT _ hr) h5;refine⟨_,w',_,?_,⟨a3,a0,rfl,rfl⟩,s2⟩;simp[execOp,resolve,invoke,builtin,aL ea hx,aL ea hy,hr])
