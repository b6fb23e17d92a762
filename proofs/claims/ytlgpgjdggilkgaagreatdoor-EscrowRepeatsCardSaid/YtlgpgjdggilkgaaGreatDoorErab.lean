/- Rules for single operations over the logic of heaps. Holds for any program whose type tables are as the classes say. -/
import Derived.Test.YtlgpgjdggilkgaaGreatDoorEraa
import Derived.Maps.AppendAt
set_option linter.all false
namespace Go.V
class Iv (P:Program) (bU:Nat):Prop where
 run:∀w,(isAgg bU).run P w=.ok false w
 size:(P.info? bU).map (·.size)=some 1
class Jb (P:Program) (bU:Nat) (n:outParam Nat):Prop where
 run:∀w,(isAgg bU).run P w=.ok true w
 size:(P.info? bU).map (·.size)=some n
class IJ (P:Program) (bU:Nat) (Τ sz Qg:outParam Nat) (z:outParam (LV)):Prop where
 under:P.underlying bU=some (.slice Τ)
 info:(P.info? Τ).map (λi=>(i.zero.map (·.cells.toList),i.size,i.bytes))=some (some z,sz,Qg)
 N5:z.length=sz
 pos:0<sz
class LP (P:Program) (bU:Nat) (k:outParam IntKind):Prop where
 under:P.underlying bU=some (.int k)
class Pb (P:Program) (bU:Nat):Prop where
 under:∃e,P.underlying bU=some (.pointer e)
class Pc (P:Program) (bU:Nat):Prop where
 under:P.underlying bU=some .string
class bD (P:Program) (bU f:Nat) (off:outParam Nat):Prop where
 run:∃fs fd i,P.underlying bU=some (.struct fs)/\fs[f]? = some fd/\fd.offset=off/\P.info? fd.type=some i/\i.size≠0
def zV(P:Program)(f:Nat):TypeDesc->Option (Nat×Option Nat)
 | .struct fs=>(fs[f]?).map λfd=>(fd.offset,(P.info? fd.type).map (·.size))
 | _=>none
theorem bD.of{P:Program}{bU f off:Nat}(sz:Nat)(h:(P.underlying bU).map (zV P f)=some (some (off,some (sz+1)))):bD P bU f off:=by
 cases hu:P.underlying bU with
 | none=>rw[hu] at h;cases h
 | some Ξ =>
  rw[hu] at h;cases Ξ<;>simp[zV] at h;rename_i fs;obtain⟨fd,J,U,i,h3,h4⟩:=h;exact⟨fs,fd,i,hu,J,U,h3,by omega⟩
class Pd (P:Program) (bU:Nat) (Ν Τ:outParam Nat):Prop where
 under:P.underlying bU=some (.map Ν Τ)
def qo(P:Program):TypeDesc->Option (List (Nat×Option Nat))
 | .struct fs=>some (fs.toList.map λfd=>(fd.offset,(P.info? fd.type).map (·.size)))
 | _=>none
class Kf (P:Program) (bU:Nat) (pl:outParam (List (Nat×Nat))):Prop where
 eq:(P.underlying bU).map (qo P)=some (some (pl.map λp=>(p.1,some p.2)))
def Iv.L5{P:Program}{bU:Nat}[h:Iv P bU](w:World):(sizeOf bU).run P w=.ok 1 w:=by
 have J:=h.size;cases hi:P.info? bU with
 | none=>rw[hi] at J;cases J
 | some i=>rw[hi] at J;simp at J;simp[sizeOf,typeInfo,hi,J]
def Jb.L5{P:Program}{bU n:Nat}[h:Jb P bU n](w:World):(sizeOf bU).run P w=.ok n w:=by
 have J:=h.size;cases hi:P.info? bU with
 | none=>rw[hi] at J;cases J
 | some i=>rw[hi] at J;simp at J;simp[sizeOf,typeInfo,hi,J]
def IJ.Ζ{P:Program}{bU Τ sz Qg:Nat}{z:LV}(h:IJ P bU Τ sz Qg z):∃i z0,P.info? Τ=some i/\i.zero=some z0/\z0.cells.toList=z/\i.size=sz/\i.bytes=Qg:=by
 have J:=h.info;cases hi:P.info? Τ with
 | none=>rw[hi] at J;cases J
 | some i =>
  rw[hi] at J;simp at J;obtain⟨⟨z0,hz,r⟩,U,h3⟩:=J;exact⟨i,z0,rfl,hz,r,U,h3⟩
class Mf {α:Type} (Β:α->LV):Prop where
 one:∀x,∀u∈Β x,u.oneCell' = true
def obj(b bU:Nat)(cs:LV):HP:=h1 b (.cells cs.toArray bU (0,0))
def Υ{α:Type}(Β:α->LV)(sz Τ:Nat)(M:OA)(cap:Nat)(D:List α):HP:=λ_ h =>
 (∀x∈D,(Β x).length=sz)/\D.length<=cap/\cap<=maxLen /\
 ((M=none/\cap=0)\/∃g r,M=some ⟨g,0,none⟩/\h g=some (.cells r Τ (0,0))/\r.size=cap*sz/\r.toList.take (D.length*sz)=D.flatMap Β)
def ε{α:Type}(Β:α->LV)(sz:Nat)(M:OA)(D:List α):HP:=λι _ =>
 (∀x∈D,(Β x).length=sz) /\
 (D=[]\/∃g off r Τ fz,M=some ⟨g,off,none⟩/\ι g=some (.cells r Τ fz)/\∀i v,(D.flatMap Β)[i]? = some v->r[off+i]? = some v)
def MN{α:Type}(w:World)(Β:α->LV)(sz:Nat)(M:OA)(D:List α):Prop :=
 (∀x∈D,(Β x).length=sz) /\
 (D=[]\/∃a,M=some a/\∀i v,(D.flatMap Β)[i]? = some v->w.cell? (a.add i)=some v)
class KP (L:LH) (b:Nat) (bU:outParam Nat) (cs:outParam (LV)) (Α:outParam (LH)):Prop where
 perm:L.Perm (obj b bU cs::Α)
instance (L:LH)(b bU:Nat)(cs:LV):KP (obj b bU cs::L) b bU cs L:=⟨List.Perm.refl _⟩
instance (Μ:HP)(L:LH)(b bU:Nat)(cs:LV)(Α:LH)[h:KP L b bU cs Α]:KP (Μ::L) b bU cs (Μ::Α):=⟨(h.perm.cons Μ).trans (List.Perm.swap _ _ _)⟩
class MO (L:LH) (M:OA) (α:outParam Type) (Β:outParam (α->LV)) (sz Τ:outParam Nat) (cap:outParam Nat) (D:outParam (List α)) (Α:outParam (LH)):Prop where
 perm:L.Perm (Υ Β sz Τ M cap D::Α)
instance {α:Type}(L:LH)(Β:α->LV)(sz Τ:Nat)(M:OA)(cap:Nat)(D:List α):MO (Υ Β sz Τ M cap D::L) M α Β sz Τ cap D L:=⟨List.Perm.refl _⟩
instance {α:Type}(Μ:HP)(L:LH)(Β:α->LV)(sz Τ:Nat)(M:OA)(cap:Nat)(D:List α)(Α:LH)[h:MO L M α Β sz Τ cap D Α]:MO (Μ::L) M α Β sz Τ cap D (Μ::Α):=⟨(h.perm.cons Μ).trans (List.Perm.swap _ _ _)⟩
class C7 (L:LH) (M:OA) (α:outParam Type) (Β:outParam (α->LV)) (sz:outParam Nat) (D:outParam (List α)):Prop where
 rd:∀θ Α w,Sat θ (L++Α) w->MN w Β sz M D
def oe(a:Addr):a.add 0=a:=by simp[Addr.add]
def fi(g i:Nat):(⟨g,0,none⟩:Addr).add i=⟨g,i,none⟩:=by unfold Addr.add;split<;>simp_all
theorem gG(g o i:Nat):(⟨g,o,none⟩:Addr).add i=⟨g,o+i,none⟩:=by unfold Addr.add;split<;>simp_all
def dI{w:World}{g:Nat}{r:Array Value}{Τ:TypeId}{fz:Nat×Nat}(h:w.heap[g]? = some (.cells r Τ fz))(i:Nat):w.cell? ⟨g,i,none⟩=r[i]?:=by simp[World.cell?,h]
def Sat.Lw{α:Type}{θ:Th}{Β:α->LV}{sz Τ:Nat}{M:OA}{cap:Nat}{D:List α}{L:LH}{w:World}(s:Sat θ (Υ Β sz Τ M cap D::L) w) :
  (∀x∈D,(Β x).length=sz)/\D.length<=cap/\cap<=maxLen /\
  ((M=none/\cap=0)\/∃g r,M=some ⟨g,0,none⟩/\r.size=cap*sz/\r.toList.take (D.length*sz)=D.flatMap Β/\Sat θ (h1 g (.cells r Τ (0,0))::L) w):=by
 obtain⟨ok,ι,h,a,b1,c,F9,D7,C3,d1,d2,d3,d4,⟨e1,e2,e3,e4⟩,d6⟩:=s;refine⟨e1,e2,e3,?_⟩;rcases e4 with e4|⟨g,r,f1,f2,f3,f4⟩
 .exact .inl e4
 .exact .inr ⟨g,r,f1,f3,f4,ok,ι,h,a,b1,c,F9,D7,C3,d1,d2,d3,d4,f2,d6⟩
def Sat.Mu{α:Type}{θ:Th}{Β:α->LV}{sz Τ:Nat}{g cap:Nat}{r:Array Value}{D:List α}{L:LH}{w:World}(s:Sat θ (h1 g (.cells r Τ (0,0))::L) w)
  (J:∀x∈D,(Β x).length=sz) (U:D.length<=cap) (h3:cap<=maxLen) (h4:r.size=cap*sz) (h5:r.toList.take (D.length*sz)=D.flatMap Β):Sat θ (Υ Β sz Τ (some ⟨g,0,none⟩) cap D::L) w:=by
 obtain⟨ok,ι,h,a,b1,c,F9,D7,C3,d1,d2,d3,d4,d5,d6⟩:=s;exact⟨ok,ι,h,a,b1,c,F9,D7,C3,d1,d2,d3,d4,⟨J,U,h3,.inr ⟨g,r,rfl,d5,h4,h5⟩⟩,d6⟩
def Sat.d9{α:Type}{θ:Th}(Β:α->LV)(sz Τ:Nat){L:LH}{w:World}(s:Sat θ L w):Sat θ (Υ Β sz Τ none 0 []::L) w:=by
 obtain⟨ok,ι,h',a,b1,c,Ξ⟩:=s;exact⟨ok,ι,h',a,b1,c,Hp.emp,Hp.emp,h',Hp.a8 _,Hp.c7 _,Hp.a8 _,Hp.sub.refl _,⟨by simp,by simp,by simp,.inl ⟨rfl,rfl⟩⟩,Ξ⟩
def cF{α:Type}{Β:α->LV}{sz:Nat}{D:List α}(h:∀x∈D,(Β x).length=sz):(D.flatMap Β).length=D.length*sz:=by
 induction D with
 | nil=>simp
 | cons x D ih =>
  simp only[List.flatMap_cons,List.length_append,List.length_cons,ih (λy Z=>h y (List.mem_cons_of_mem _ Z)),h x List.mem_cons_self,Nat.add_mul];omega
def lN{α:Type}[Inhabited α]{Β:α->LV}{sz:Nat}{D:List α}(h:∀x∈D,(Β x).length=sz){j o:Nat}(hj:j<D.length)(ho:o<sz):(D.flatMap Β)[j*sz+o]? = (Β D[j]!)[o]?:=by
 induction D generalizing j with
 | nil=>simp at hj
 | cons x D ih =>
  have K:=h x List.mem_cons_self;have hr:=λy Z=>h y (List.mem_cons_of_mem x Z);cases j with
  | zero =>
   simp only[List.flatMap_cons,Nat.zero_mul,Nat.zero_add];rw[List.getElem?_append_left (by omega)];simp
  | succ j =>
   simp only[List.flatMap_cons];rw[List.getElem?_append_right (by rw[K,Nat.add_mul];omega),K,show(j+1)*sz+o - sz=j*sz+o by rw[Nat.add_mul];omega,ih hr (by simpa using hj)];simp
def Sat.g9{α:Type}{θ:Th}{Β:α->LV}{sz Τ:Nat}{M:OA}{cap:Nat}{D:List α}{L:LH}{w:World}(s:Sat θ (Υ Β sz Τ M cap D::L) w):MN w Β sz M D:=by
 obtain⟨J,U,h3,h4⟩:=s.Lw;refine⟨J,?_⟩;rcases h4 with⟨rfl,rfl⟩|⟨g,r,rfl,f1,f2,f3⟩
 .exact .inl (List.eq_nil_of_length_eq_zero (by omega))
 .refine .inr ⟨_,rfl,λi v hv=>?_⟩;rw[fi,dI f3.IN];rw[<-f2,List.getElem?_take] at hv;split at hv
  .simpa using hv
  .cases hv
def Sat.PN{α:Type}{θ:Th}{Β:α->LV}{sz:Nat}{M:OA}{D:List α}{L:LH}{w:World}(s:Sat θ (ε Β sz M D::L) w):MN w Β sz M D:=by
 obtain⟨ok,ι,h,a,b1,c,F9,D7,C3,d1,d2,d3,d4,⟨e1,e2⟩,d6⟩:=s;refine⟨e1,?_⟩;rcases e2 with e2|⟨g,off,r,Τ,fz,rfl,f1,f2⟩
 .exact .inl e2
 .refine .inr ⟨_,rfl,λi v hv=>?_⟩;have hb:w.heap[g]? = some (.cells r Τ fz):=b1 g _ (d1 g _ f1);rw[gG,dI hb];exact f2 i v hv
instance {α:Type}(L:LH)(Β:α->LV)(sz Τ:Nat)(M:OA)(cap:Nat)(D:List α):C7 (Υ Β sz Τ M cap D::L) M α Β sz D:=⟨λ_ _ _ s=>Sat.g9 s⟩
instance {α:Type}(L:LH)(Β:α->LV)(sz:Nat)(M:OA)(D:List α):C7 (ε Β sz M D::L) M α Β sz D:=⟨λ_ _ _ s=>Sat.PN s⟩
instance {α:Type}(Μ:HP)(L:LH)(Β:α->LV)(sz:Nat)(M:OA)(D:List α)[h:C7 L M α Β sz D]:C7 (Μ::L) M α Β sz D:=⟨λθ Α w s=>h.rd θ Α w s.tail⟩
def Sat.JC{α:Type}{θ:Th}{Β:α->LV}{sz Τ:Nat}{M:OA}{cap:Nat}{D:List α}{L:LH}{w:World}(s:Sat θ (Υ Β sz Τ M cap D::L) w):Sat θ (ε Β sz M D::L) w:=by
 obtain⟨J,U,h3,h4⟩:=s.Lw;rcases h4 with⟨rfl,rfl⟩|⟨g,r,rfl,f1,f2,f3⟩
 .have K:D=[]:=List.eq_nil_of_length_eq_zero (by omega);subst K;obtain⟨ok,ι,h',a,b1,c,Ξ⟩:=s.tail;exact⟨ok,ι,h',a,b1,c,Hp.emp,Hp.emp,h',Hp.a8 _,Hp.c7 _,Hp.a8 _,Hp.sub.refl _,⟨by simp,.inl rfl⟩,Ξ⟩
 .obtain⟨ok,ι,h,a,b1,c,F9,D7,C3,d1,d2,d3,d4,d5,d6⟩:=f3.freeze;refine⟨ok,ι,h,a,b1,c,F9,D7,C3,d1,d2,d3,d4,⟨J,.inr ⟨g,0,r,Τ,(0,0),rfl,d5,?_⟩⟩,d6⟩;intro i v hv;rw[<-f2,List.getElem?_take] at hv;split at hv
  .simpa using hv
  .cases hv
def kj{α:Type}(Β:α->LV)(sz:Nat)(M:OA)(D:List α):PK (ε Β sz M D):=λ_ _ h=>h
def Ks(M:OA)(sz j off:Nat):OA:=M.map (·.add (j*sz+off))
section ops
variable {P:Program}{N:Nat}{env:Env}{L:LH}{Ν:E1}{ty:TypeId}{pos:String}{af:Array Edge}
def O.move{x:Operand}{v:Value}(K:χ env x=some v):O P L env (.move x) ty (v) :=
 O.mk (λ_ _ _ _ ea _ _ _ _ _=>by simp[execOp,aH ea K])
def O.assign{x:Operand}{v:Value}(K:χ env x=some v):O P L env (.assign x) ty (v) :=
 O.mk (λ_ _ _ _ ea _ _ _ _ _=>by simp[execOp,aH ea K])
def O.n7{c x y:Operand}{v:Value}(hc:χ env c=some (.bool true))(K:χ env x=some v):O P L env (.pick c x y) ty (v) :=
 O.mk (λ_ _ _ _ ea _ _ _ _ _=>by simp[execOp,aH ea hc,aH ea K,asBool])
def O.m9{c x y:Operand}{v:Value}(hc:χ env c=some (.bool false))(Z:χ env y=some v):O P L env (.pick c x y) ty (v) :=
 O.mk (λ_ _ _ _ ea _ _ _ _ _=>by simp[execOp,aH ea hc,aH ea Z,asBool])
def O.extract{x:Operand}{l:LV}{i:Nat}{v:Value}(K:χ env x=some (.tuple l.toArray))(hi:l[i]? = some v):O P L env (.extract x i) ty (v) :=
 O.mk (λ_ _ _ _ ea _ _ _ _ _=>by simp[execOp,aH ea K,Instr.extract,hi])
theorem wrap_i64{n:Int}(h0 : -9223372036854775808<=n)(J:n<=9223372036854775807):IntKind.i64.wrap n=n:=by
 exact IntWalk.i64_in _ ⟨h0,J⟩
def lx{r:Option Tmp}{g:Option (Nat×Bool)}{op:BinOp}{k:IntKind}{t yt:TypeId}{x y:Operand}{a b:Int}{ρ:Operand->Value}{w:World}{b' : Bool}(K:ρ x=.int k a)(Z:ρ y=.int k b)
  (I:(binOp op t (.int k a) (.int k b)).run P w=.ok (.bool b') w):(execOp ρ ⟨r,.binOp op t x y yt,ty,pos,af,g⟩).run P w=.ok (.value (.bool b')) w:=by
 simp[execOp,K,Z,I,eqGuard]
def gC{r:Option Tmp}{g:Option (Nat×Bool)}{op:BinOp}{k k' : IntKind}{t yt:TypeId}{x y:Operand}{a b c:Int}{ρ:Operand->Value}{w:World}(K:ρ x=.int k a)(Z:ρ y=.int k' b)
  (I:(binOp op t (.int k a) (.int k' b)).run P w=.ok (.int k c) w):(execOp ρ ⟨r,.binOp op t x y yt,ty,pos,af,g⟩).run P w=.ok (.value (.int k c)) w:=by
 simp[execOp,K,Z,I,eqGuard]
def O.eql{t yt:TypeId}{x y:Operand}{k:IntKind}{a b:Int}(K:χ env x=some (.int k a))(Z:χ env y=some (.int k b)):O P L env (.binOp .eql t x y yt) ty (.bool (dB (a=b))) :=
 O.mk (λ_ _ _ w ea _ _ _ _ _=>lx (aH ea K) (aH ea Z) (by simp[binOp,Op.intCmp,BEq.beq,dd]))
def O.neq{t yt:TypeId}{x y:Operand}{k:IntKind}{a b:Int}(K:χ env x=some (.int k a))(Z:χ env y=some (.int k b)):O P L env (.binOp .neq t x y yt) ty (.bool (dB (¬a=b))) :=
 O.mk (λ_ _ _ w ea _ _ _ _ _=>lx (aH ea K) (aH ea Z) (by simp[binOp,Op.intCmp,bne,BEq.beq,dd]))
def O.lss{t yt:TypeId}{x y:Operand}{k:IntKind}{a b:Int}(K:χ env x=some (.int k a))(Z:χ env y=some (.int k b)):O P L env (.binOp .lss t x y yt) ty (.bool (dB (a<b))) :=
 O.mk (λ_ _ _ w ea _ _ _ _ _=>lx (aH ea K) (aH ea Z) (by simp[binOp,Op.intCmp,dd]))
def O.leq{t yt:TypeId}{x y:Operand}{k:IntKind}{a b:Int}(K:χ env x=some (.int k a))(Z:χ env y=some (.int k b)):O P L env (.binOp .leq t x y yt) ty (.bool (dB (a<=b))) :=
 O.mk (λ_ _ _ w ea _ _ _ _ _=>lx (aH ea K) (aH ea Z) (by simp[binOp,Op.intCmp,dd]))
def O.gtr{t yt:TypeId}{x y:Operand}{k:IntKind}{a b:Int}(K:χ env x=some (.int k a))(Z:χ env y=some (.int k b)):O P L env (.binOp .gtr t x y yt) ty (.bool (dB (b<a))) :=
 O.mk (λ_ _ _ w ea _ _ _ _ _=>lx (aH ea K) (aH ea Z) (by simp[binOp,Op.intCmp,dd]))
def O.geq{t yt:TypeId}{x y:Operand}{k:IntKind}{a b:Int}(K:χ env x=some (.int k a))(Z:χ env y=some (.int k b)):O P L env (.binOp .geq t x y yt) ty (.bool (dB (b<=a))) :=
 O.mk (λ_ _ _ w ea _ _ _ _ _=>lx (aH ea K) (aH ea Z) (by simp[binOp,Op.intCmp,dd]))
theorem O.add{t yt:TypeId}{x y:Operand}{a b:Int}(K:χ env x=some (.int .i64 a))(Z:χ env y=some (.int .i64 b))(h0 : -9223372036854775808<=a+b)(J:a+b<=9223372036854775807):O P L env (.binOp .add t x y yt) ty (.int .i64 (a+b)) :=
 O.mk (λ_ _ _ w ea _ _ _ _ _=>gC (aH ea K) (aH ea Z) (by simp[binOp,Op.intArith,wrap_i64 h0 J]))
def O.sub{t yt:TypeId}{x y:Operand}{a b:Int}(K:χ env x=some (.int .i64 a))(Z:χ env y=some (.int .i64 b))(h0 : -9223372036854775808<=a - b)(J:a - b<=9223372036854775807):O P L env (.binOp .sub t x y yt) ty (.int .i64 (a - b)) :=
 O.mk (λ_ _ _ w ea _ _ _ _ _=>gC (aH ea K) (aH ea Z) (by simp[binOp,Op.intArith,wrap_i64 h0 J]))
def O.mul{t yt:TypeId}{x y:Operand}{a b:Int}(K:χ env x=some (.int .i64 a))(Z:χ env y=some (.int .i64 b))(h0 : -9223372036854775808<=a*b)(J:a*b<=9223372036854775807):O P L env (.binOp .mul t x y yt) ty (.int .i64 (a*b)) :=
 O.mk (λ_ _ _ w ea _ _ _ _ _=>gC (aH ea K) (aH ea Z) (by simp[binOp,Op.intArith,wrap_i64 h0 J]))
def O.z6{t yt:TypeId}{x y:Operand}{k:IntKind}{a b:Int}(K:χ env x=some (.int k a))(Z:χ env y=some (.int k b)):O P L env (.binOp .add t x y yt) ty (.int k (k.wrap (a+b))) :=
 O.mk (λ_ _ _ w ea _ _ _ _ _=>gC (aH ea K) (aH ea Z) (by simp[binOp,Op.intArith]))
def O.A4{t yt:TypeId}{x y:Operand}{k:IntKind}{a b:Int}(K:χ env x=some (.int k a))(Z:χ env y=some (.int k b)):O P L env (.binOp .sub t x y yt) ty (.int k (k.wrap (a - b))) :=
 O.mk (λ_ _ _ w ea _ _ _ _ _=>gC (aH ea K) (aH ea Z) (by simp[binOp,Op.intArith]))
def O.A5{t yt:TypeId}{x y:Operand}{k:IntKind}{a b:Int}(K:χ env x=some (.int k a))(Z:χ env y=some (.int k b)):O P L env (.binOp .mul t x y yt) ty (.int k (k.wrap (a*b))) :=
 O.mk (λ_ _ _ w ea _ _ _ _ _=>gC (aH ea K) (aH ea Z) (by simp[binOp,Op.intArith]))
def xr{a b:Int}(h0 : -9223372036854775808<=a)(J:a<=9223372036854775807)(hb:0<b) : -9223372036854775808<=a.tdiv b/\a.tdiv b<=9223372036854775807:=by
 by_cases ha:0<=a
 .rw[Int.tdiv_eq_ediv_of_nonneg ha];have U:=Int.ediv_nonneg ha (Int.le_of_lt hb);have h3:=Int.ediv_le_self b ha;omega
 .have h4:a.tdiv b = -((-a).tdiv b):=by rw[Int.neg_tdiv,Int.neg_neg]
  rw[h4,Int.tdiv_eq_ediv_of_nonneg (by omega)];have U:=Int.ediv_nonneg (show 0<=-a by omega) (Int.le_of_lt hb);have h3:=Int.ediv_le_self b (show 0<=-a by omega);omega
def O.quo{t yt:TypeId}{x y:Operand}{a b:Int}(K:χ env x=some (.int .i64 a))(Z:χ env y=some (.int .i64 b))(h0:0<=a)(J:a<=9223372036854775807)(hb:0<b):O P L env (.binOp .quo t x y yt) ty (.int .i64 (a / b)) :=
 O.mk (λ_ _ _ w ea _ _ _ _ _=>gC (aH ea K) (aH ea Z) (by
  have r : b≠0:=by omega
  have U:=Int.ediv_nonneg h0 (Int.le_of_lt hb);have h3:=Int.ediv_le_self b h0;simp[binOp,Op.intDiv,r,Int.tdiv_eq_ediv_of_nonneg h0,wrap_i64 (show -9223372036854775808<=a / b by omega) (show a / b<=9223372036854775807 by omega)]))
def O.x8{t yt:TypeId}{x y:Operand}{a b:Int}(K:χ env x=some (.int .i64 a))(Z:χ env y=some (.int .i64 b))(h0 : -9223372036854775808<=a)(J:a<=9223372036854775807)(hb:0<b):O P L env (.binOp .quo t x y yt) ty (.int .i64 (a.tdiv b)) :=
 O.mk (λ_ _ _ w ea _ _ _ _ _=>gC (aH ea K) (aH ea Z) (by
  have r : b≠0:=by omega
  have U:=xr h0 J hb;simp[binOp,Op.intDiv,r,wrap_i64 U.1 U.2]))
def O.rem{t yt:TypeId}{x y:Operand}{k:IntKind}{a b:Int}(K:χ env x=some (.int k a))(Z:χ env y=some (.int k b))(h0:0<=a)(hb:0<b):O P L env (.binOp .rem t x y yt) ty (.int k (a % b)) :=
 O.mk (λ_ _ _ w ea _ _ _ _ _=>gC (aH ea K) (aH ea Z) (by
  have r : b≠0:=by omega
  simp[binOp,Op.intDiv,r,Int.tmod_eq_emod_of_nonneg h0]))
def O.x7{t yt:TypeId}{x y:Operand}{k:IntKind}{a b:Int}(K:χ env x=some (.int k a))(Z:χ env y=some (.int k b))(hb:b≠0):O P L env (.binOp .rem t x y yt) ty (.int k (a.tmod b)) :=
 O.mk (λ_ _ _ w ea _ _ _ _ _=>gC (aH ea K) (aH ea Z) (by simp[binOp,Op.intDiv,hb]))
def O.neg{t:TypeId}{x:Operand}{a:Int}(K:χ env x=some (.int .i64 a))(h0 : -9223372036854775807<=a)(J:a<=9223372036854775807):O P L env (.unOp .neg t x) ty (.int .i64 (-a)) :=
 O.mk (λ_ _ _ w ea _ _ _ _ _=>by
  have hw:IntKind.i64.wrap (0 - a) = -a:=by rw[wrap_i64 (by omega) (by omega)];omega
  simp[execOp,aH ea K,Op.unary,Op.intArith] at hw ⊢;exact hw)
def O.not{t:TypeId}{x:Operand}{φ:Prop}[Decidable φ](K:χ env x=some (.bool (dB φ))):O P L env (.unOp .not t x) ty (.bool (dB (¬φ))) :=
 O.mk (λ_ _ _ w ea _ _ _ _ _=>by simp[execOp,aH ea K,Op.unary,dd])
def O.o7{t:TypeId}{x:Operand}{b:Bool}(K:χ env x=some (.bool b)):O P L env (.unOp .not t x) ty (.bool (!b)) :=
 O.mk (λ_ _ _ w ea _ _ _ _ _=>by simp[execOp,aH ea K,Op.unary])
def O.y6{t:TypeId}{x:Operand}(K:χ env x=some (.bool true)):O P L env (.unOp .not t x) ty (.bool false):=O.o7 K
def O.y7{t:TypeId}{x:Operand}(K:χ env x=some (.bool false)):O P L env (.unOp .not t x) ty (.bool true):=O.o7 K
def O.conv{s t:TypeId}{x:Operand}{k k' : IntKind}{a:Int}[hs:LP P s k][ht:LP P t k'](K:χ env x=some (.int k a)):O P L env (.convert s t x) ty (.int k' (k'.wrap a)) :=
 O.mk (λ_ _ _ w ea _ _ _ _ _=>by simp[execOp,aH ea K,convert,run_underlying hs.under,run_underlying ht.under,Conv.intToInt])
def O.min2{x y:Operand}{ats:Array TypeId}{k k' : IntKind}{a b:Int}(K:χ env x=some (.int k a))(Z:χ env y=some (.int k' b)):O P L env (.call { callee:=.builtin .min,args:=#[x,y],argTypes:=ats }) ty (.int k (min a b)) :=
 O.mk (λ_ _ _ w ea _ _ _ _ _=>by
  have hm:(if b<a then b else a)=min a b:=by split<;>omega
  simp[execOp,resolve,invoke,builtin,aH ea K,aH ea Z,Builtin.min_,Builtin.min2,hm])
def O.max2{x y:Operand}{ats:Array TypeId}{k k' : IntKind}{a b:Int}(K:χ env x=some (.int k a))(Z:χ env y=some (.int k' b)):O P L env (.call { callee:=.builtin .max,args:=#[x,y],argTypes:=ats }) ty (.int k (max a b)) :=
 O.mk (λ_ _ _ w ea _ _ _ _ _=>by
  have hm:(if a<b then b else a)=max a b:=by split<;>omega
  have r : (if b>a then b else a)=max a b:=by split<;>omega
  simp[execOp,resolve,invoke,builtin,aH ea K,aH ea Z,Builtin.max_,Builtin.max2];first|exact hm|exact r | omega)
def O.nilCheck{x:Operand}{a:Addr}(K:χ env x=some (.pointer (some a))):O P L env (.nilCheck x) ty (.pointer (some a)) :=
 O.mk (λ_ _ _ w ea _ _ _ _ _=>by simp[execOp,aH ea K])
def iP{t:TypeId}{u v:Value}{Θ:Bool}{w:World}(h:∀n,(Op.equalIn (n+1) t u v).run P w=.ok Θ w):(Op.equal t u v).run P w=.ok Θ w:=h 9999
def lH{t e:TypeId}{p q:OA}{w:World}{n:Nat}(he:P.underlying t=some (.pointer e))(hq:p=none\/q=none):(Op.equalIn (n+1) t (.pointer p) (.pointer q)).run P w=.ok (decide (p=q)) w:=by
 rcases hq with rfl|rfl
 .cases q<;>simp[Op.equalIn,run_underlying he]
 .cases p<;>simp[Op.equalIn,run_underlying he]
def xC{t e:TypeId}{M:OA}{k c:Nat}{w:World}{n:Nat}(he:P.underlying t=some (.slice e)):(Op.equalIn (n+1) t (.slice M k c) (.slice none 0 0)).run P w=.ok (decide (M=none)) w:=by
 cases M<;>simp[Op.equalIn,run_underlying he]
def O.u6{t yt:TypeId}{x y:Operand}{a:Addr}[ht:Pb P t](K:χ env x=some (.pointer (some a)))(Z:χ env y=some (.pointer none)):O P L env (.binOp .eql t x y yt) ty (.bool false) :=
 O.mk (λ_ _ _ w ea _ _ _ _ _=>by
  obtain⟨e,he⟩:=ht.under;have J:=iP (P:=P) (w:=w) (λn=>lH (n:=n) (p:=some a) (q:=none) he (.inr rfl));simp[execOp,aH ea K,aH ea Z,eqGuard,binOp,J])
def O.t8{t yt:TypeId}{x y:Operand}{a:Addr}[ht:Pb P t](K:χ env x=some (.pointer (some a)))(Z:χ env y=some (.pointer none)):O P L env (.binOp .neq t x y yt) ty (.bool true) :=
 O.mk (λ_ _ _ w ea _ _ _ _ _=>by
  obtain⟨e,he⟩:=ht.under;have J:=iP (P:=P) (w:=w) (λn=>lH (n:=n) (p:=some a) (q:=none) he (.inr rfl));simp[execOp,aH ea K,aH ea Z,eqGuard,binOp,J])
def O.p5{t yt:TypeId}{x y:Operand}[ht:Pb P t](K:χ env x=some (.pointer none))(Z:χ env y=some (.pointer none)):O P L env (.binOp .eql t x y yt) ty (.bool true) :=
 O.mk (λ_ _ _ w ea _ _ _ _ _=>by
  obtain⟨e,he⟩:=ht.under;have J:=iP (P:=P) (w:=w) (λn=>lH (n:=n) (p:=none) (q:=none) he (.inr rfl));simp[execOp,aH ea K,aH ea Z,eqGuard,binOp,J])
def O.w4{t yt:TypeId}{x y:Operand}{M:OA}{n c Τ sz bb:Nat}{z:LV}[ht:IJ P t Τ sz bb z](K:χ env x=some (.slice M n c))(Z:χ env y=some (.slice none 0 0)):O P L env (.binOp .eql t x y yt) ty (.bool (dB (M=none))) :=
 O.mk (λ_ _ _ w ea _ _ _ _ _=>by
  have J:=iP (P:=P) (w:=w) (λm=>xC (n:=m) (M:=M) (k:=n) (c:=c) ht.under);simp[execOp,aH ea K,aH ea Z,eqGuard,binOp,J,dd])
def oz{s f:Nat}{off:Nat}[hf:bD P s f off]{a:Addr}{w:World}:(Instr.fieldAt s (.pointer (some a)) f).run P w=.ok (.pointer (some (a.add off))) w:=by
 obtain⟨fs,fd,i,J,U,h3,h4,h5⟩:=hf.run;subst h3;simp[Instr.fieldAt,run_underlying J,U,Instr.sureAddr,fieldPlace,sizeOf,typeInfo,h4,h5]
def O.fieldAddr{s f:Nat}{x:Operand}{b off:Nat}[bD P s f off](K:χ env x=some (.pointer (some ⟨b,0,none⟩))):O P L env (.fieldAddr s x f) ty (.pointer (some ⟨b,off,none⟩)) :=
 O.mk (λ_ _ _ w ea _ _ _ _ _=>by simp[execOp,aH ea K,oz,fi])
def O.f5{s f:Nat}{x:Operand}{b o off:Nat}[bD P s f off](K:χ env x=some (.pointer (some ⟨b,o,none⟩))):O P L env (.fieldAddr s x f) ty (.pointer (some ⟨b,o+off,none⟩)) :=
 O.mk (λ_ _ _ w ea _ _ _ _ _=>by simp[execOp,aH ea K,oz,gG])
def O.c8{s f:Nat}{x:Operand}{M:OA}{sz j off:Nat}[bD P s f off]{α:Type}{Β:α->LV}{D:List α}[hr:C7 L M α Β sz D](K:χ env x=some (.pointer (Ks M sz j 0)))(hj:j<D.length):O P L env (.fieldAddr s x f) ty (.pointer (Ks M sz j off)) :=
 O.mk (λθ Α _ w ea s _ _ _ _=>by
  obtain⟨_,U⟩:=hr.rd θ Α w s;rcases U with U|⟨a,rfl,_⟩
  .subst U;simp at hj
  .have e:(a.add (j*sz+0)).add off=a.add (j*sz+off):=by
    unfold Addr.add;(repeat' split)<;>first|rfl|omega|(simp;omega)|(simp_all;done)
   simp only[Nat.add_zero] at e;simp[execOp,aH ea K,Ks,oz,e])
def O.indexAddr{t:TypeId}{x i:Operand}{M:OA}{n c Τ sz bb:Nat}{z:LV}{j:Int}{k:IntKind}{α:Type}{Β:α->LV}{D:List α}[ht:IJ P t Τ sz bb z][hr:C7 L M α Β sz D]
  (K:χ env x=some (.slice M n c)) (hi:χ env i=some (.int k j)) (h0:0<=j) (J:j<n) (hn:n<=D.length):O P L env (.indexAddr t x i) ty (.pointer (Ks M sz j.toNat 0)) :=
 O.mk (λθ Α _ w ea s _ _ _ _=>by
  obtain⟨_,U⟩:=hr.rd θ Α w s;obtain⟨ii,z0,i1,i2,i3,i4,i5⟩:=ht.Ζ;rcases U with U|⟨a,rfl,_⟩
  .subst U;simp at hn;omega
  .simp[execOp,aH ea K,aH ea hi,Instr.indexAt,asIntOf,run_underlying ht.under,h0,J,sizeOf,typeInfo,i1,i4,Ks])
def O.j0{t:TypeId}{x i:Operand}{b n c Τ sz bb:Nat}{z:LV}{j:Int}{k:IntKind}[ht:IJ P t Τ sz bb z]
  (K:χ env x=some (.slice (some ⟨b,0,none⟩) n c)) (hi:χ env i=some (.int k j)) (h0:0<=j) (J:j<n):O P L env (.indexAddr t x i) ty (.pointer (some ⟨b,j.toNat*sz,none⟩)) :=
 O.mk (λθ Α _ w ea s _ _ _ _=>by
  obtain⟨ii,z0,i1,i2,i3,i4,i5⟩:=ht.Ζ;simp[execOp,aH ea K,aH ea hi,Instr.indexAt,asIntOf,run_underlying ht.under,h0,J,sizeOf,typeInfo,i1,i4,fi])
def Sat.OB{θ:Th}{b bU:Nat}{cs:LV}{L Α:LH}{w:World}(s:Sat θ (L++Α) w){D8:LH}(hp:L.Perm (obj b bU cs::D8)):w.heap[b]? = some (.cells cs.toArray bU (0,0)) :=
 (s.perm (hp.append_right Α)).IN
def O.d8{t:TypeId}{x:Operand}{b k bU:Nat}{cs:LV}{D8:LH}{v:Value}[ht:Iv P t][hp:KP L b bU cs D8](K:χ env x=some (.pointer (some ⟨b,k,none⟩)))(hv:cs[k]? = some v):O P L env (.load t x) ty (v) :=
 O.mk (λθ Α _ w ea s _ _ _ _=>by
  have hb:=s.OB hp.perm;simp[execOp,aH ea K,Instr.loadAt,Instr.sureAddr,loadVar,ht.run,dI hb,hv])
def O.d7{t:TypeId}{x:Operand}{b bU n:Nat}{cs:LV}{D8:LH}[ht:Jb P t n][hp:KP L b bU cs D8](K:χ env x=some (.pointer (some ⟨b,0,none⟩)))(hn:cs.length=n):O P L env (.load t x) ty (.agg cs.toArray) :=
 O.mk (λθ Α _ w ea s _ _ _ _=>by
  have hb:=s.OB hp.perm;have hl:=run_loadCells_list (P:=P) w ⟨b,0,none⟩ cs (λj v hv=>by rw[fi,dI hb];simpa using hv);rw[hn] at hl;simp[execOp,aH ea K,Instr.loadAt,Instr.sureAddr,loadVar,ht.run,Jb.L5,hl])
def O.f8{t:TypeId}{x:Operand}{M:OA}{sz j o:Nat}{α:Type}[Inhabited α]{Β:α->LV}{D:List α}{v:Value}[ht:Iv P t][hr:C7 L M α Β sz D]
  (K:χ env x=some (.pointer (Ks M sz j o))) (hj:j<D.length) (ho:o<sz) (hv:(Β D[j]!)[o]? = some v):O P L env (.load t x) ty (v) :=
 O.mk (λθ Α _ w ea s _ _ _ _=>by
  obtain⟨J,U⟩:=hr.rd θ Α w s;rcases U with U|⟨a,rfl,h3⟩
  .subst U;simp at hj
  .have h4:=h3 (j*sz+o) v (by rw[lN J hj ho];exact hv);simp[execOp,aH ea K,Ks,Instr.loadAt,Instr.sureAddr,loadVar,ht.run,h4])
def O.d9{t:TypeId}{x:Operand}{M:OA}{sz j:Nat}{α:Type}[Inhabited α]{Β:α->LV}{D:List α}[ht:Jb P t sz][hr:C7 L M α Β sz D]
  (K:χ env x=some (.pointer (Ks M sz j 0))) (hj:j<D.length):O P L env (.load t x) ty (.agg (Β D[j]!).toArray) :=
 O.mk (λθ Α _ w ea s _ _ _ _=>by
  obtain⟨J,U⟩:=hr.rd θ Α w s;rcases U with U|⟨a,rfl,h3⟩
  .subst U;simp at hj
  .have r:(Β D[j]!).length=sz:=J _ (by rw[List.getElem!_eq_getElem?_getD,List.getElem?_eq_getElem hj];simp)
   have hl:=run_loadCells_list (P:=P) w (a.add (j*sz)) (Β D[j]!) (λo v hv=>by
    have ho:o<sz:=by rw[<-r];exact(List.getElem?_eq_some_iff.1 hv).1
    have e:(a.add (j*sz)).add o=a.add (j*sz+o):=by
     unfold Addr.add;(repeat' split)<;>first|rfl|omega|(simp;omega)|(simp_all;done)
    rw[e];exact h3 _ v (by rw[lN J hj ho];exact hv))
   rw[r] at hl;simp[execOp,aH ea K,Ks,Instr.loadAt,Instr.sureAddr,loadVar,ht.run,Jb.L5,hl])
def kY{w:World}{b k:Nat}{cs:Array Value}{bU:TypeId}{fz:Nat×Nat}(v:Value)(h:w.heap[b]? = some (.cells cs bU fz)):(w.setCell ⟨b,k,none⟩ v).heap[b]? = some (.cells (cs.setIfInBounds k v) bU fz):=by
 simp[World.setCell,Array.getElem?_modify,h]
def kJ{w:World}{b k j:Nat}(v:Value)(h:j≠b):(w.setCell ⟨b,k,none⟩ v).heap[j]? = w.heap[j]?:=by
 simp only[World.setCell,Array.getElem?_modify];rw[Ω (by omega)]
def nT:LV->Nat->Value->(LV->Option (LV))->Option (LV)
 | [],_,_,_=>none
 | _::cs,0,v,k=>k (v::cs)
 | c::cs,n+1,v,k=>nT cs n v λΘ=>k (c::Θ)
def qN:∀(cs:LV) (n:Nat) (v:Value) (k:LV->Option (LV)) (Θ:LV),nT cs n v k=some Θ->n<cs.length/\k (cs.set n v)=some Θ
 | [],_,_,_,_,h=>by simp[nT] at h
 | _::cs,0,v,k,Θ,h=>by simpa [nT] using h
 | c::cs,n+1,v,k,Θ,h=>by
  have:=qN cs n v (λΘ=>k (c::Θ)) Θ (by simpa [nT] using h)
  simpa using this
def Ef.j0{t:TypeId}{x y:Operand}{b k bU:Nat}{cs a3 : LV}{D8:LH}{v:Value}[ht:Iv P t][hp:KP L b bU cs D8](K:χ env x=some (.pointer (some ⟨b,k,none⟩)))(Z:χ env y=some v)(J:v.oneCell' = true)(a4:nT cs k v some=some a3)
  : Ef P L env (.store t x y) ty (λ_ Y=>Y = obj b bU a3::D8) :=
 Ef.skip (λθ Α a w ea s a7 pos af g=>by
  have s1:=s.perm (hp.perm.append_right Α);have hb:w.heap[b]? = some (.cells cs.toArray bU (0,0)):=s1.IN;obtain⟨a9,I⟩:=qN _ _ _ _ _ a4;have a2:cs.set k v=a3:=by simpa using I
  subst a2;have r:w.cell? ⟨b,k,none⟩=some cs[k]:=by rw[dI hb];simp
  have a6:w.frozen? ⟨b,k,none⟩=false:=by simp[World.frozen?,hb]
  have a5:v.cells=#[v]:=by cases v<;>first|rfl|cases J
  refine⟨w.setCell ⟨b,k,none⟩ v,_,?_,rfl,?_⟩
  .simp[execOp,aH ea K,aH ea Z,Instr.storeAt,Instr.sureAddr,storeVar,Iv.L5,a5,storeCells,Addr.add,run_store _ _ _ _ _ J,r,a6]
  .refine Sat.update s1 ⟨s.1.tape,s.1.os,s.1.output,s.1.drawn⟩ ?_ (λj x hj K=>by rw[kJ v hj];exact K);rw[kY v hb];simp)
def Ef.f9{t:TypeId}{x y:Operand}{b bU n:Nat}{cs vs:LV}{D8:LH}[ht:Jb P t n][hp:KP L b bU cs D8](K:χ env x=some (.pointer (some ⟨b,0,none⟩)))(Z:χ env y=some (.agg vs.toArray))(hn:vs.length=n)(hc:cs.length=n)(J:∀v∈vs,v.oneCell' = true)
  : Ef P L env (.store t x y) ty (λ_ Y=>Y = obj b bU vs::D8) :=
 Ef.skip (λθ Α a w ea s I pos af g=>by
  have s1:=s.perm (hp.perm.append_right Α);have hb:w.heap[b]? = some (.cells cs.toArray bU (0,0)):=s1.IN;have r:=run_storeCells_at P b 0 bU vs 0 cs.toArray w hb (by simp;omega) J;refine⟨w.setRow b vs.toArray,_,?_,rfl,?_⟩
  .simp[execOp,aH ea K,aH ea Z,Instr.storeAt,Instr.sureAddr,storeVar,Jb.L5,Value.cells,hn] at r ⊢;rw[r];simp[show List.drop n cs=[] by rw[<-hc];simp]
  .exact Sat.update s1 ⟨s.1.tape,s.1.os,s.1.output,s.1.drawn⟩ (setRow_heap w b _ _ bU _ hb) (λj x hj K=>by rw[setRow_other w b j _ hj];exact K))
def Ef.j9{t:TypeId}{x:Operand}{vs:LV}(K:χ env x=some (.agg vs.toArray)):Ef P L env (.box t x) ty (λv Y=>∃b,v=.pointer (some ⟨b,0,none⟩)/\Y = obj b t vs::L) :=
 Ef.val (λθ Α a w ea s r pos af g=>⟨_,w.alloc (.cells vs.toArray t),_,by simp[execOp,aH ea K,Instr.box,newVar,newRow,Value.cells],⟨_,rfl,rfl⟩,s.alloc⟩)
def Ef.k7{t:TypeId}{x:Operand}{v:Value}(K:χ env x=some v)(J:v.oneCell' = true):Ef P L env (.box t x) ty (λu Y=>∃b,u=.pointer (some ⟨b,0,none⟩)/\Y = obj b t [v]::L) :=
 Ef.val (λθ Α a w ea s I pos af g=>⟨_,w.alloc (.cells #[v] t),_,by
  have r:v.cells=#[v]:=by cases v<;>first|rfl|cases J
  simp[execOp,aH ea K,Instr.box,newVar,newRow,r],⟨_,rfl,rfl⟩,s.alloc⟩)
class I5 (P:Program) (bU:Nat) (z:outParam (LV)):Prop where
 zero:(P.info? bU).map (λi=>i.zero.map (·.cells.toList))=some (some z)
def I5.run{P:Program}{bU:Nat}{z:LV}[h:I5 P bU z](w:World):∃z0,(zeroValue bU).run P w=.ok z0 w/\z0.cells=z.toArray:=by
 have J:=h.zero;cases hi:P.info? bU with
 | none=>rw[hi] at J;cases J
 | some i =>
  rw[hi] at J;simp at J;obtain⟨z0,hz,r⟩:=J;exact⟨z0,by simp[zeroValue,typeInfo,hi,hz],by rw[<-r]⟩
def Ef.alloc{t:TypeId}{z:LV}[hz:I5 P t z]:Ef P L env (.alloc t) ty (λu Y=>∃b,u=.pointer (some ⟨b,0,none⟩)/\Y = obj b t z::L) :=
 Ef.val (λθ Α a w ea s r pos af g=>⟨_,w.alloc (.cells z.toArray t),_,by
  obtain⟨z0,J,U⟩:=hz.run w;simp[execOp,Instr.alloc,J,newVar,newRow,U],⟨_,rfl,rfl⟩,s.alloc⟩)
def qv(z:LV)(sz len:Nat)(Ζ:List (Nat×Value)):Option (LV) :=
 (Instr.fill (λi=>some (i*sz,sz)) ((Array.range (len*sz)).map (z.toArray[· % z.length]!)) Ζ).map (·.toList)
def Ef.buildSlice{t:TypeId}{len:Nat}{ps:Array (Nat×Operand)}{vs:List (Nat×Value)}{Τ sz bb:Nat}{z cs:LV}[ht:IJ P t Τ sz bb z](hv:jF env ps.toList=some vs)(hl:len*sz<=16777216)(hc:qv z sz len vs=some cs)
  : Ef P L env (.buildSlice t len ps) ty (λv Y=>∃b,v=.slice (some ⟨b,0,none⟩) len len/\Y = obj b Τ cs::L) :=
 Ef.val (λθ Α a w ea s a4 pos af g=>⟨.slice (some ⟨w.heap.size,0,none⟩) len len,w.alloc (.cells cs.toArray Τ),_,by
  obtain⟨ii,z0,i1,i2,i3,i4,i5⟩:=ht.Ζ
  have r:ps.map (λp=>(p.1,a p.2))=vs.toArray:=by
   apply Array.ext';simpa using ea.pairs ps.toList vs hv
  have hz:z0.cells=z.toArray:=by rw[<-i3]
  simp only[qv,Option.map_eq_some_iff] at hc;obtain⟨ar,I,a3⟩:=hc;subst a3;have a2:¬len*sz>2 ^ 24:=by omega
  simp only[execOp,r,Instr.buildSlice,Sem.run_bind,run_underlying ht.under,Result.andThen_ok,sizeOf,typeInfo,run_program,i1,Sem.run_pure,i4,a2,if_false,zeroValue];by_cases h0:len*sz=0
  .simp only[h0,if_true];have e0:(Array.range 0:Array Nat)=#[]:=rfl;simp only[h0,e0,List.map_toArray,List.map_nil] at I ⊢;simp only[I];simp[newRow]
  .simp only[h0,if_false,Sem.run_bind,run_program,Result.andThen_ok,i1,Sem.run_pure,i2,hz,List.size_toArray];simp only[I];simp[newRow],⟨_,rfl,rfl⟩,s.alloc⟩)
def O.p9{t:TypeId}{x:Operand}{M:OA}{n c Τ sz bb:Nat}{z:LV}[ht:IJ P t Τ sz bb z](K:χ env x=some (.slice M n c)):O P L env (.call { callee:=.builtin .len,args:=#[x],argTypes:=#[t] }) ty (.int .i64 (n:Int)) :=
 O.mk (λ_ _ _ w ea _ _ _ _ _=>by simp[execOp,resolve,invoke,builtin,aH ea K,Builtin.len_,run_underlying ht.under,goInt])
def qr{α:Type}{θ:Th}{Β:α->LV}{sz Τ:Nat}{M:OA}{cap:Nat}{D:List α}{L:LH}{w:World}(s:Sat θ (Υ Β sz Τ M cap D::L) w):w.ownsRow 0 Τ sz (.slice M D.length cap) D.length (D.flatMap Β):=by
 obtain⟨J,U,h3,h4⟩:=s.Lw;refine⟨cF J,?_⟩;rcases h4 with⟨rfl,rfl⟩|⟨g,r,rfl,f1,f2,f3⟩
 .left;have:D.length=0:=by omega
  simp[this]
 .exact .inr ⟨g,cap,r,rfl,Nat.zero_le _,f3.IN,U,h3,f1,f2⟩
def oE{α:Type}{θ:Th}{Β:α->LV}{sz Τ:Nat}{M:OA}{cap:Nat}{D ys:List α}{L:LH}{w ab : World}(s:Sat θ (Υ Β sz Τ M cap D::L) w)(Z:∀x∈ys,(Β x).length=sz){v' : Value}
  (ho:ab.ownsRow 0 Τ sz v' (D.length+ys.length) (D.flatMap Β++ys.flatMap Β)) (hg:w.grownBy ab (Value.ownBlock (.slice M D.length cap))) (b9:w.drawn<=ab.drawn) (a3:v'.ownBlock=Value.ownBlock (.slice M D.length cap)\/v'.ownBlock=some w.heap.size) :
  ∃b3 r,v' = .slice b3 (D++ys).length r/\Sat θ (Υ Β sz Τ b3 r (D++ys)::L) ab:=by
 obtain⟨J,U,h3,h4⟩:=s.Lw
 have a7:∀x∈D++ys,(Β x).length=sz:=λx K=>by
  rcases It K with K|K
  .exact J x K
  .exact Z x K
 have ok:θ.ok ab:=⟨by rw[hg.tape];exact s.1.tape,by rw[hg.os];exact s.1.os,by rw[hg.output];exact s.1.output,Nat.le_trans s.1.drawn b9⟩;rcases ho.2 with⟨rfl,hn⟩|⟨g,r,b4,rfl,_,a9,c0,b7,b8,a4⟩
 .have K:D=[]:=List.eq_nil_of_length_eq_zero (by omega);have Z:ys=[]:=List.eq_nil_of_length_eq_zero (by omega);subst K Z;refine⟨none,0,rfl,Sat.d9 Β sz Τ ?_⟩;refine s.tail.keep ok (λk o hk=>?_);have a5:k<w.heap.size:=(Array.getElem?_eq_some_iff.1 hk).1;by_cases a2:some k=Value.ownBlock (.slice M ([]:List α).length cap)
  .rcases h4 with⟨rfl,rfl⟩|⟨g,b4,rfl,f1,f2,f3⟩
   .simp[Value.ownBlock] at a2
   .simp[Value.ownBlock] at a2 a3
  .rw[hg.block k a5 a2];exact hk
 .refine⟨some ⟨g,0,none⟩,r,by simp,?_⟩;have b0:(D++ys).length=D.length+ys.length:=by simp
  have b6:Sat θ (h1 g (.cells b4 Τ (0,0))::L) ab->Sat θ (Υ Β sz Τ (some ⟨g,0,none⟩) r (D++ys)::L) ab:=λs' =>
   s'.Mu a7 (by omega) b7 b8 (by rw[b0,a4];simp)
  apply b6;simp only[Value.ownBlock] at a3 hg;rcases h4 with⟨rfl,rfl⟩|⟨g0,b5,rfl,f1,f2,f3⟩
  .simp at a3;subst a3;exact s.tail.fresh ok (Nat.le_refl _) a9 (λk x hk=>by rw[hg.block k (Array.getElem?_eq_some_iff.1 hk).1 (by simp)];exact hk)
  .simp at a3;rcases a3 with rfl|rfl
   .exact f3.update ok a9 (λk x hk K=>by rw[hg.block k (Array.getElem?_eq_some_iff.1 K).1 (by simpa using hk)];exact K)
   .have s5:=f3.tail
    have c1:g0≠w.heap.size:=by
     have:=(Array.getElem?_eq_some_iff.1 f3.IN).1
     omega
    -- Qh old row is given up
    obtain⟨a6,ι,h,a,b1,c,F9,D7,C3,d1,d2,d3,d4,d5,d6⟩:=f3
    have s6:Sat θ L { w with heap:=w.heap.setIfInBounds g0 ((ab.heap[g0]?).getD default) }:=by
     refine⟨⟨a6.tape,a6.os,a6.output,a6.drawn⟩,ι,C3,a.mono (Hp.sub.refl _) d4,?_,?_,d6⟩
     .intro k o hk
      have I:k≠g0:=by
       rintro rfl;have:=a k o hk
       rw[d3 k _ d5] at this;cases this
      have:=b1 k o hk
      simp only[gk] at this ⊢;rw[Array.getElem?_setIfInBounds_ne (Ne.symm I)];exact this
     .intro k o hk
      have I:k≠g0:=by
       rintro rfl;have:=d2 k _ d5
       rw[hk] at this;cases this
      have:=c k o (d4 k o hk)
      simp only[gk] at this ⊢;rw[Array.getElem?_setIfInBounds_ne (Ne.symm I)];exact this
    refine s6.fresh ok (by simp) a9 (λk x hk=>?_);by_cases I:k=g0
    .subst I
     have a5:k<w.heap.size:=by
      have:=c k _ (d3 k _ d5)
      exact(Array.getElem?_eq_some_iff.1 this).1
     simp[a5] at hk;have b2 : k<ab.heap.size:=Nat.lt_of_lt_of_le a5 hg.size;rw[Array.getElem?_eq_getElem b2] at hk ⊢;simpa using hk
    .simp only at hk;rw[Array.getElem?_setIfInBounds_ne (Ne.symm I)] at hk;rw[hg.block k (Array.getElem?_eq_some_iff.1 hk).1 (by simpa using I)];exact hk
def Ef.a8{t:TypeId}{x y:Operand}{α:Type}{Β:α->LV}{M:OA}{n c sz Τ bb cap b bU:Nat}{D:List α}{z cs:LV}{R1 R2:LH}(e:α)[ht:IJ P t Τ sz bb z][hp:MO L M α Β sz Τ cap D R1][hq:KP R1 b bU cs R2]
  (K:χ env x=some (.slice M n c)) (Z:χ env y=some (.slice (some ⟨b,0,none⟩) 1 1)) (he:cs=Β e) (hn:n=D.length) (hc:c=cap) (hs:cs.length=sz) (J:∀u∈cs,u.oneCell' = true) (hb:(D.length+1)*bb<=140737488355328) (hm:D.length+1<=9223372036854775807)
  : Ef P L env (.call { callee:=.builtin .append,args:=#[x,y],argTypes:=#[t,t] }) ty (λv Y=>∃I r,v=.slice I (D++[e]).length r/\Y = Υ Β sz Τ I r (D++[e])::R2) :=
 Ef.val (λθ Α a w ea s a4 pos af g=>by
  subst hn hc he;have s1:=s.perm (hp.perm.append_right Α);have a2:=qr s1;have a3:=Sat.OB (Α:=Α) (show Sat θ (R1++Α) w from s1.tail) hq.perm;obtain⟨ii,z0,i1,i2,i3,i4,i5⟩:=ht.Ζ;obtain⟨v',ab,hr,U,h3,_,h5⟩:=run_append_own_at (P:=P) w 0 t ty Τ ii z0 sz bb ht.under i1 i2 i4 i5 (by rw[<-ht.N5,<-i3];simp) ht.pos _ _ _ a2 ⟨b,0,none⟩ 1 1 (Β e) (by omega) (λj u hu=>by rw[fi,dI a3];simpa using hu) J (by simp only[maxLen];omega) hb (Nat.zero_le _);obtain⟨I,r,rfl,s2⟩:=oE (ys:=[e]) s1 (by simpa using hs) (by simpa using U) h3 (kK _ hr) h5;refine⟨_,ab,_,?_,⟨I,r,rfl,rfl⟩,?_⟩
  .simp[execOp,resolve,invoke,builtin,aH ea K,aH ea Z,hr]
  .have s3:Sat θ (Υ Β sz Τ I r (D++[e])::(obj b bU (Β e)::R2++Α)) ab:=s2.perm ((hq.perm.append_right Α).cons _);exact(s3.perm (List.Perm.swap _ _ _)).tail)
def Ef.c9{t:TypeId}{x y:Operand}{α:Type}{Β:α->LV}{M a4:OA}{n c n2 c2 sz Τ bb cap:Nat}{D ys:List α}{z:LV}{R1:LH}[ht:IJ P t Τ sz bb z][hp:MO L M α Β sz Τ cap D R1][hq:C7 R1 a4 α Β sz ys]
  (K:χ env x=some (.slice M n c)) (Z:χ env y=some (.slice a4 n2 c2)) (hn:n=D.length) (hc:c=cap) (a9:n2=ys.length) (J:∀e∈ys,∀u∈Β e,u.oneCell' = true) (hb:(D.length+ys.length)*bb<=140737488355328) (hm:D.length+ys.length<=9223372036854775807)
  : Ef P L env (.call { callee:=.builtin .append,args:=#[x,y],argTypes:=#[t,t] }) ty (λv Y=>∃a3 r,v=.slice a3 (D++ys).length r/\Y = Υ Β sz Τ a3 r (D++ys)::R1) :=
 Ef.val (λθ Α a w ea s b0 pos af g=>by
  subst hn hc a9;have s1:=s.perm (hp.perm.append_right Α);have a6:=qr s1;obtain⟨g1,g2⟩:=hq.rd θ Α w s1.tail;obtain⟨ii,z0,i1,i2,i3,i4,i5⟩:=ht.Ζ
  have a7 : ∀u∈ys.flatMap Β,u.oneCell' = true:=λu hu=>by
   obtain⟨e,he,hu⟩:=List.mem_flatMap.1 hu;exact J e he u hu
  rcases a4 with _|a2
  .rcases g2 with g2|⟨a,ha,_⟩
   .subst g2;refine⟨.slice M D.length c,w,_,?_,⟨M,c,by simp,rfl⟩,by simpa using s1⟩;have a5:D.length<=c:=s1.Lw.2.1;simp[execOp,resolve,invoke,builtin,aH ea K,aH ea Z,Builtin.append_,run_underlying ht.under,sizeOf,typeInfo,i1,Builtin.lenOf,a5,Builtin.firstCells];cases M<;>simp[storeCells]
   .cases ha
  .have I:∀j u,(ys.flatMap Β)[j]? = some u->w.cell? (a2.add j)=some u:=by
    rcases g2 with g2|⟨a,ha,g3⟩
    .subst g2;simp
    .cases ha;exact g3
   obtain⟨v',ab,hr,U,h3,_,h5⟩:=run_append_own_at (P:=P) w 0 t ty Τ ii z0 sz bb ht.under i1 i2 i4 i5 (by rw[<-ht.N5,<-i3];simp) ht.pos _ _ _ a6 a2 ys.length c2 (ys.flatMap Β) (cF g1) I a7 (by simp only[maxLen];omega) hb (Nat.zero_le _);obtain⟨a3,r,rfl,s2⟩:=oE (ys:=ys) s1 g1 U h3 (kK _ hr) h5;refine⟨_,ab,_,?_,⟨a3,r,rfl,rfl⟩,s2⟩;simp[execOp,resolve,invoke,builtin,aH ea K,aH ea Z,hr])
