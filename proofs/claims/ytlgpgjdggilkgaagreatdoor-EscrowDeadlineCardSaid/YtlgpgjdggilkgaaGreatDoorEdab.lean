/- Rules for single operations over the logic of heaps. Holds for any program whose type tables are as the classes say. -/
import Derived.Test.YtlgpgjdggilkgaaGreatDoorEdaa
import Derived.Maps.AppendAt
set_option linter.all false
namespace Go.V
class L8 (P:Program) (an:Nat):Prop where
 run:∀w,(isAgg an).run P w=.ok false w
 size:(P.info? an).map (·.size)=some 1
class Nw (P:Program) (an:Nat) (n:outParam Nat):Prop where
 run:∀w,(isAgg an).run P w=.ok true w
 size:(P.info? an).map (·.size)=some n
class M9 (P:Program) (an:Nat) (ζ sz Ve:outParam Nat) (z:outParam (χ)):Prop where
 under:P.underlying an=some (.slice ζ)
 info:(P.info? ζ).map (λi=>(i.zero.map (·.cells.toList),i.size,i.bytes))=some (some z,sz,Ve)
 Tf:z.length=sz
 pos:0<sz
class Qv (P:Program) (an:Nat) (k:outParam IntKind):Prop where
 under:P.underlying an=some (.int k)
class T9 (P:Program) (an:Nat):Prop where
 under:∃e,P.underlying an=some (.pointer e)
class Ub (P:Program) (an:Nat):Prop where
 under:P.underlying an=some .string
class dh (P:Program) (an f:Nat) (off:outParam Nat):Prop where
 run:∃fs fd i,P.underlying an=some (.struct fs)/\fs[f]? = some fd/\fd.offset=off/\P.info? fd.type=some i/\i.size≠0
def CT(P:Program)(f:Nat):TypeDesc->Option (Nat×Option Nat)
 | .struct fs=>(fs[f]?).map λfd=>(fd.offset,(P.info? fd.type).map (·.size))
 | _=>none
theorem dh.of{P:Program}{an f off:Nat}(sz:Nat)(h:(P.underlying an).map (CT P f)=some (some (off,some (sz+1)))):dh P an f off:=by
 cases hu:P.underlying an with
 | none=>rw[hu] at h;cases h
 | some Ξ =>
  rw[hu] at h;cases Ξ<;>simp[CT] at h;rename_i fs;obtain⟨fd,I,Q,i,h3,h4⟩:=h;exact⟨fs,fd,i,hu,I,Q,h3,by omega⟩
class Z1 (P:Program) (an:Nat) (Ρ ζ:outParam Nat):Prop where
 under:P.underlying an=some (.map Ρ ζ)
def sP(P:Program):TypeDesc->Option (List (Nat×Option Nat))
 | .struct fs=>some (fs.toList.map λfd=>(fd.offset,(P.info? fd.type).map (·.size)))
 | _=>none
class OB (P:Program) (an:Nat) (pl:outParam (List (Nat×Nat))):Prop where
 eq:(P.underlying an).map (sP P)=some (some (pl.map λp=>(p.1,some p.2)))
def L8.QL{P:Program}{an:Nat}[h:L8 P an](w:World):(sizeOf an).run P w=.ok 1 w:=by
 have I:=h.size;cases hi:P.info? an with
 | none=>rw[hi] at I;cases I
 | some i=>rw[hi] at I;simp at I;simp[sizeOf,typeInfo,hi,I]
def Nw.QL{P:Program}{an n:Nat}[h:Nw P an n](w:World):(sizeOf an).run P w=.ok n w:=by
 have I:=h.size;cases hi:P.info? an with
 | none=>rw[hi] at I;cases I
 | some i=>rw[hi] at I;simp at I;simp[sizeOf,typeInfo,hi,I]
def M9.Γ{P:Program}{an ζ sz Ve:Nat}{z:χ}(h:M9 P an ζ sz Ve z):∃i z0,P.info? ζ=some i/\i.zero=some z0/\z0.cells.toList=z/\i.size=sz/\i.bytes=Ve:=by
 have I:=h.info;cases hi:P.info? ζ with
 | none=>rw[hi] at I;cases I
 | some i =>
  rw[hi] at I;simp at I;obtain⟨⟨z0,hz,A⟩,Q,h3⟩:=I;exact⟨i,z0,rfl,hz,A,Q,h3⟩
class Rl {α:Type} (Η:α->χ):Prop where
 one:∀x,∀u∈Η x,u.oneCell' = true
def obj(b an:Nat)(cs:χ):HP:=sh b (.cells cs.toArray an (0,0))
def μ{α:Type}(Η:α->χ)(sz ζ:Nat)(ad:OA)(cap:Nat)(G:List α):HP:=λ_ h =>
 (∀x∈G,(Η x).length=sz)/\G.length<=cap/\cap<=maxLen /\
 ((ad=none/\cap=0)\/∃g A,ad=some ⟨g,0,none⟩/\h g=some (.cells A ζ (0,0))/\A.size=cap*sz/\A.toList.take (G.length*sz)=G.flatMap Η)
def τ{α:Type}(Η:α->χ)(sz:Nat)(ad:OA)(G:List α):HP:=λι _ =>
 (∀x∈G,(Η x).length=sz) /\
 (G=[]\/∃g off A ζ fz,ad=some ⟨g,off,none⟩/\ι g=some (.cells A ζ fz)/\∀i v,(G.flatMap Η)[i]? = some v->A[off+i]? = some v)
def RW{α:Type}(w:World)(Η:α->χ)(sz:Nat)(ad:OA)(G:List α):Prop :=
 (∀x∈G,(Η x).length=sz) /\
 (G=[]\/∃a,ad=some a/\∀i v,(G.flatMap Η)[i]? = some v->w.cell? (a.add i)=some v)
class Pq (L:Ι) (b:Nat) (an:outParam Nat) (cs:outParam (χ)) (R:outParam (Ι)):Prop where
 perm:L.Perm (obj b an cs::R)
instance (L:Ι)(b an:Nat)(cs:χ):Pq (obj b an cs::L) b an cs L:=⟨List.Perm.refl _⟩
instance (Φ:HP)(L:Ι)(b an:Nat)(cs:χ)(R:Ι)[h:Pq L b an cs R]:Pq (Φ::L) b an cs (Φ::R):=⟨(h.perm.cons Φ).trans (List.Perm.swap _ _ _)⟩
class RH (L:Ι) (ad:OA) (α:outParam Type) (Η:outParam (α->χ)) (sz ζ:outParam Nat) (cap:outParam Nat) (G:outParam (List α)) (R:outParam (Ι)):Prop where
 perm:L.Perm (μ Η sz ζ ad cap G::R)
instance {α:Type}(L:Ι)(Η:α->χ)(sz ζ:Nat)(ad:OA)(cap:Nat)(G:List α):RH (μ Η sz ζ ad cap G::L) ad α Η sz ζ cap G L:=⟨List.Perm.refl _⟩
instance {α:Type}(Φ:HP)(L:Ι)(Η:α->χ)(sz ζ:Nat)(ad:OA)(cap:Nat)(G:List α)(R:Ι)[h:RH L ad α Η sz ζ cap G R]:RH (Φ::L) ad α Η sz ζ cap G (Φ::R):=⟨(h.perm.cons Φ).trans (List.Perm.swap _ _ _)⟩
class F5 (L:Ι) (ad:OA) (α:outParam Type) (Η:outParam (α->χ)) (sz:outParam Nat) (G:outParam (List α)):Prop where
 rd:∀θ R w,Sat θ (L++R) w->RW w Η sz ad G
def qk(a:Addr):a.add 0=a:=by simp[Addr.add]
def fV(g i:Nat):(⟨g,0,none⟩:Addr).add i=⟨g,i,none⟩:=by unfold Addr.add;split<;>simp_all
theorem iR(g o i:Nat):(⟨g,o,none⟩:Addr).add i=⟨g,o+i,none⟩:=by unfold Addr.add;split<;>simp_all
def ej{w:World}{g:Nat}{A:Array Value}{ζ:TypeId}{fz:Nat×Nat}(h:w.heap[g]? = some (.cells A ζ fz))(i:Nat):w.cell? ⟨g,i,none⟩=A[i]?:=by simp[World.cell?,h]
def Sat.Qw{α:Type}{θ:Th}{Η:α->χ}{sz ζ:Nat}{ad:OA}{cap:Nat}{G:List α}{L:Ι}{w:World}(s:Sat θ (μ Η sz ζ ad cap G::L) w) :
  (∀x∈G,(Η x).length=sz)/\G.length<=cap/\cap<=maxLen /\
  ((ad=none/\cap=0)\/∃g A,ad=some ⟨g,0,none⟩/\A.size=cap*sz/\A.toList.take (G.length*sz)=G.flatMap Η/\Sat θ (sh g (.cells A ζ (0,0))::L) w):=by
 obtain⟨ok,ι,h,a,b1,c,G6,E4,D5,d1,d2,d3,d4,⟨e1,e2,e3,e4⟩,d6⟩:=s;refine⟨e1,e2,e3,?_⟩;rcases e4 with e4|⟨g,A,f1,f2,f3,f4⟩
 .exact .inl e4
 .exact .inr ⟨g,A,f1,f3,f4,ok,ι,h,a,b1,c,G6,E4,D5,d1,d2,d3,d4,f2,d6⟩
def Sat.Rm{α:Type}{θ:Th}{Η:α->χ}{sz ζ:Nat}{g cap:Nat}{A:Array Value}{G:List α}{L:Ι}{w:World}(s:Sat θ (sh g (.cells A ζ (0,0))::L) w)
  (I:∀x∈G,(Η x).length=sz) (Q:G.length<=cap) (h3:cap<=maxLen) (h4:A.size=cap*sz) (h5:A.toList.take (G.length*sz)=G.flatMap Η):Sat θ (μ Η sz ζ (some ⟨g,0,none⟩) cap G::L) w:=by
 obtain⟨ok,ι,h,a,b1,c,G6,E4,D5,d1,d2,d3,d4,d5,d6⟩:=s;exact⟨ok,ι,h,a,b1,c,G6,E4,D5,d1,d2,d3,d4,⟨I,Q,h3,.inr ⟨g,A,rfl,d5,h4,h5⟩⟩,d6⟩
def Sat.d7{α:Type}{θ:Th}(Η:α->χ)(sz ζ:Nat){L:Ι}{w:World}(s:Sat θ L w):Sat θ (μ Η sz ζ none 0 []::L) w:=by
 obtain⟨ok,ι,h',a,b1,c,Ξ⟩:=s;exact⟨ok,ι,h',a,b1,c,Hp.emp,Hp.emp,h',Hp.a8 _,Hp.c7 _,Hp.a8 _,Hp.sub.refl _,⟨by simp,by simp,by simp,.inl ⟨rfl,rfl⟩⟩,Ξ⟩
def dd{α:Type}{Η:α->χ}{sz:Nat}{G:List α}(h:∀x∈G,(Η x).length=sz):(G.flatMap Η).length=G.length*sz:=by
 induction G with
 | nil=>simp
 | cons x G ih =>
  simp only[List.flatMap_cons,List.length_append,List.length_cons,ih (λy U=>h y (List.mem_cons_of_mem _ U)),h x List.mem_cons_self,Nat.add_mul];omega
def nw{α:Type}[Inhabited α]{Η:α->χ}{sz:Nat}{G:List α}(h:∀x∈G,(Η x).length=sz){j o:Nat}(hj:j<G.length)(ho:o<sz):(G.flatMap Η)[j*sz+o]? = (Η G[j]!)[o]?:=by
 induction G generalizing j with
 | nil=>simp at hj
 | cons x G ih =>
  have M:=h x List.mem_cons_self;have hr:=λy U=>h y (List.mem_cons_of_mem x U);cases j with
  | zero =>
   simp only[List.flatMap_cons,Nat.zero_mul,Nat.zero_add];rw[List.getElem?_append_left (by omega)];simp
  | succ j =>
   simp only[List.flatMap_cons];rw[List.getElem?_append_right (by rw[M,Nat.add_mul];omega),M,show(j+1)*sz+o - sz=j*sz+o by rw[Nat.add_mul];omega,ih hr (by simpa using hj)];simp
def Sat.VQ{α:Type}{θ:Th}{Η:α->χ}{sz ζ:Nat}{ad:OA}{cap:Nat}{G:List α}{L:Ι}{w:World}(s:Sat θ (μ Η sz ζ ad cap G::L) w):RW w Η sz ad G:=by
 obtain⟨I,Q,h3,h4⟩:=s.Qw;refine⟨I,?_⟩;rcases h4 with⟨rfl,rfl⟩|⟨g,A,rfl,f1,f2,f3⟩
 .exact .inl (List.eq_nil_of_length_eq_zero (by omega))
 .refine .inr ⟨_,rfl,λi v hv=>?_⟩;rw[fV,ej f3.M8];rw[<-f2,List.getElem?_take] at hv;split at hv
  .simpa using hv
  .cases hv
def Sat.VR{α:Type}{θ:Th}{Η:α->χ}{sz:Nat}{ad:OA}{G:List α}{L:Ι}{w:World}(s:Sat θ (τ Η sz ad G::L) w):RW w Η sz ad G:=by
 obtain⟨ok,ι,h,a,b1,c,G6,E4,D5,d1,d2,d3,d4,⟨e1,e2⟩,d6⟩:=s;refine⟨e1,?_⟩;rcases e2 with e2|⟨g,off,A,ζ,fz,rfl,f1,f2⟩
 .exact .inl e2
 .refine .inr ⟨_,rfl,λi v hv=>?_⟩;have hb:w.heap[g]? = some (.cells A ζ fz):=b1 g _ (d1 g _ f1);rw[iR,ej hb];exact f2 i v hv
instance {α:Type}(L:Ι)(Η:α->χ)(sz ζ:Nat)(ad:OA)(cap:Nat)(G:List α):F5 (μ Η sz ζ ad cap G::L) ad α Η sz G:=⟨λ_ _ _ s=>Sat.VQ s⟩
instance {α:Type}(L:Ι)(Η:α->χ)(sz:Nat)(ad:OA)(G:List α):F5 (τ Η sz ad G::L) ad α Η sz G:=⟨λ_ _ _ s=>Sat.VR s⟩
instance {α:Type}(Φ:HP)(L:Ι)(Η:α->χ)(sz:Nat)(ad:OA)(G:List α)[h:F5 L ad α Η sz G]:F5 (Φ::L) ad α Η sz G:=⟨λθ R w s=>h.rd θ R w s.tail⟩
def Sat.NZ{α:Type}{θ:Th}{Η:α->χ}{sz ζ:Nat}{ad:OA}{cap:Nat}{G:List α}{L:Ι}{w:World}(s:Sat θ (μ Η sz ζ ad cap G::L) w):Sat θ (τ Η sz ad G::L) w:=by
 obtain⟨I,Q,h3,h4⟩:=s.Qw;rcases h4 with⟨rfl,rfl⟩|⟨g,A,rfl,f1,f2,f3⟩
 .have M:G=[]:=List.eq_nil_of_length_eq_zero (by omega);subst M;obtain⟨ok,ι,h',a,b1,c,Ξ⟩:=s.tail;exact⟨ok,ι,h',a,b1,c,Hp.emp,Hp.emp,h',Hp.a8 _,Hp.c7 _,Hp.a8 _,Hp.sub.refl _,⟨by simp,.inl rfl⟩,Ξ⟩
 .obtain⟨ok,ι,h,a,b1,c,G6,E4,D5,d1,d2,d3,d4,d5,d6⟩:=f3.freeze;refine⟨ok,ι,h,a,b1,c,G6,E4,D5,d1,d2,d3,d4,⟨I,.inr ⟨g,0,A,ζ,(0,0),rfl,d5,?_⟩⟩,d6⟩;intro i v hv;rw[<-f2,List.getElem?_take] at hv;split at hv
  .simpa using hv
  .cases hv
def lC{α:Type}(Η:α->χ)(sz:Nat)(ad:OA)(G:List α):Vd (τ Η sz ad G):=λ_ _ h=>h
def OQ(ad:OA)(sz j off:Nat):OA:=ad.map (·.add (j*sz+off))
section ops
variable {P:Program}{N:Nat}{env:Env}{L:Ι}{Ρ:F8}{ty:TypeId}{pos:String}{af:Array Edge}
def Z.move{x:Operand}{v:Value}(M:bG env x=some v):Z P L env (.move x) ty (v) :=
 Z.mk (λ_ _ _ _ ea _ _ _ _ _=>by simp[execOp,aI ea M])
def Z.assign{x:Operand}{v:Value}(M:bG env x=some v):Z P L env (.assign x) ty (v) :=
 Z.mk (λ_ _ _ _ ea _ _ _ _ _=>by simp[execOp,aI ea M])
def Z.n9{c x y:Operand}{v:Value}(hc:bG env c=some (.bool true))(M:bG env x=some v):Z P L env (.pick c x y) ty (v) :=
 Z.mk (λ_ _ _ _ ea _ _ _ _ _=>by simp[execOp,aI ea hc,aI ea M,asBool])
def Z.n7{c x y:Operand}{v:Value}(hc:bG env c=some (.bool false))(U:bG env y=some v):Z P L env (.pick c x y) ty (v) :=
 Z.mk (λ_ _ _ _ ea _ _ _ _ _=>by simp[execOp,aI ea hc,aI ea U,asBool])
def Z.extract{x:Operand}{l:χ}{i:Nat}{v:Value}(M:bG env x=some (.tuple l.toArray))(hi:l[i]? = some v):Z P L env (.extract x i) ty (v) :=
 Z.mk (λ_ _ _ _ ea _ _ _ _ _=>by simp[execOp,aI ea M,Instr.extract,hi])
theorem wrap_i64{n:Int}(h0 : -9223372036854775808<=n)(I:n<=9223372036854775807):IntKind.i64.wrap n=n:=by
 exact IntWalk.i64_in _ ⟨h0,I⟩
def mR{A:Option Tmp}{g:Option (Nat×Bool)}{op:BinOp}{k:IntKind}{t yt:TypeId}{x y:Operand}{a b:Int}{ρ:Operand->Value}{w:World}{b' : Bool}(M:ρ x=.int k a)(U:ρ y=.int k b)
  (J:(binOp op t (.int k a) (.int k b)).run P w=.ok (.bool b') w):(execOp ρ ⟨A,.binOp op t x y yt,ty,pos,af,g⟩).run P w=.ok (.value (.bool b')) w:=by
 simp[execOp,M,U,J,eqGuard]
def ik{A:Option Tmp}{g:Option (Nat×Bool)}{op:BinOp}{k k' : IntKind}{t yt:TypeId}{x y:Operand}{a b c:Int}{ρ:Operand->Value}{w:World}(M:ρ x=.int k a)(U:ρ y=.int k' b)
  (J:(binOp op t (.int k a) (.int k' b)).run P w=.ok (.int k c) w):(execOp ρ ⟨A,.binOp op t x y yt,ty,pos,af,g⟩).run P w=.ok (.value (.int k c)) w:=by
 simp[execOp,M,U,J,eqGuard]
def Z.eql{t yt:TypeId}{x y:Operand}{k:IntKind}{a b:Int}(M:bG env x=some (.int k a))(U:bG env y=some (.int k b)):Z P L env (.binOp .eql t x y yt) ty (.bool (dB (a=b))) :=
 Z.mk (λ_ _ _ w ea _ _ _ _ _=>mR (aI ea M) (aI ea U) (by simp[binOp,Op.intCmp,BEq.beq,dF]))
def Z.neq{t yt:TypeId}{x y:Operand}{k:IntKind}{a b:Int}(M:bG env x=some (.int k a))(U:bG env y=some (.int k b)):Z P L env (.binOp .neq t x y yt) ty (.bool (dB (¬a=b))) :=
 Z.mk (λ_ _ _ w ea _ _ _ _ _=>mR (aI ea M) (aI ea U) (by simp[binOp,Op.intCmp,bne,BEq.beq,dF]))
def Z.lss{t yt:TypeId}{x y:Operand}{k:IntKind}{a b:Int}(M:bG env x=some (.int k a))(U:bG env y=some (.int k b)):Z P L env (.binOp .lss t x y yt) ty (.bool (dB (a<b))) :=
 Z.mk (λ_ _ _ w ea _ _ _ _ _=>mR (aI ea M) (aI ea U) (by simp[binOp,Op.intCmp,dF]))
def Z.leq{t yt:TypeId}{x y:Operand}{k:IntKind}{a b:Int}(M:bG env x=some (.int k a))(U:bG env y=some (.int k b)):Z P L env (.binOp .leq t x y yt) ty (.bool (dB (a<=b))) :=
 Z.mk (λ_ _ _ w ea _ _ _ _ _=>mR (aI ea M) (aI ea U) (by simp[binOp,Op.intCmp,dF]))
def Z.gtr{t yt:TypeId}{x y:Operand}{k:IntKind}{a b:Int}(M:bG env x=some (.int k a))(U:bG env y=some (.int k b)):Z P L env (.binOp .gtr t x y yt) ty (.bool (dB (b<a))) :=
 Z.mk (λ_ _ _ w ea _ _ _ _ _=>mR (aI ea M) (aI ea U) (by simp[binOp,Op.intCmp,dF]))
def Z.geq{t yt:TypeId}{x y:Operand}{k:IntKind}{a b:Int}(M:bG env x=some (.int k a))(U:bG env y=some (.int k b)):Z P L env (.binOp .geq t x y yt) ty (.bool (dB (b<=a))) :=
 Z.mk (λ_ _ _ w ea _ _ _ _ _=>mR (aI ea M) (aI ea U) (by simp[binOp,Op.intCmp,dF]))
theorem Z.add{t yt:TypeId}{x y:Operand}{a b:Int}(M:bG env x=some (.int .i64 a))(U:bG env y=some (.int .i64 b))(h0 : -9223372036854775808<=a+b)(I:a+b<=9223372036854775807):Z P L env (.binOp .add t x y yt) ty (.int .i64 (a+b)) :=
 Z.mk (λ_ _ _ w ea _ _ _ _ _=>ik (aI ea M) (aI ea U) (by simp[binOp,Op.intArith,wrap_i64 h0 I]))
def Z.sub{t yt:TypeId}{x y:Operand}{a b:Int}(M:bG env x=some (.int .i64 a))(U:bG env y=some (.int .i64 b))(h0 : -9223372036854775808<=a - b)(I:a - b<=9223372036854775807):Z P L env (.binOp .sub t x y yt) ty (.int .i64 (a - b)) :=
 Z.mk (λ_ _ _ w ea _ _ _ _ _=>ik (aI ea M) (aI ea U) (by simp[binOp,Op.intArith,wrap_i64 h0 I]))
def Z.mul{t yt:TypeId}{x y:Operand}{a b:Int}(M:bG env x=some (.int .i64 a))(U:bG env y=some (.int .i64 b))(h0 : -9223372036854775808<=a*b)(I:a*b<=9223372036854775807):Z P L env (.binOp .mul t x y yt) ty (.int .i64 (a*b)) :=
 Z.mk (λ_ _ _ w ea _ _ _ _ _=>ik (aI ea M) (aI ea U) (by simp[binOp,Op.intArith,wrap_i64 h0 I]))
def Z.A9{t yt:TypeId}{x y:Operand}{k:IntKind}{a b:Int}(M:bG env x=some (.int k a))(U:bG env y=some (.int k b)):Z P L env (.binOp .add t x y yt) ty (.int k (k.wrap (a+b))) :=
 Z.mk (λ_ _ _ w ea _ _ _ _ _=>ik (aI ea M) (aI ea U) (by simp[binOp,Op.intArith]))
def Z.A6{t yt:TypeId}{x y:Operand}{k:IntKind}{a b:Int}(M:bG env x=some (.int k a))(U:bG env y=some (.int k b)):Z P L env (.binOp .sub t x y yt) ty (.int k (k.wrap (a - b))) :=
 Z.mk (λ_ _ _ w ea _ _ _ _ _=>ik (aI ea M) (aI ea U) (by simp[binOp,Op.intArith]))
def Z.A7{t yt:TypeId}{x y:Operand}{k:IntKind}{a b:Int}(M:bG env x=some (.int k a))(U:bG env y=some (.int k b)):Z P L env (.binOp .mul t x y yt) ty (.int k (k.wrap (a*b))) :=
 Z.mk (λ_ _ _ w ea _ _ _ _ _=>ik (aI ea M) (aI ea U) (by simp[binOp,Op.intArith]))
def AA{a b:Int}(h0 : -9223372036854775808<=a)(I:a<=9223372036854775807)(hb:0<b) : -9223372036854775808<=a.tdiv b/\a.tdiv b<=9223372036854775807:=by
 by_cases ha:0<=a
 .rw[Int.tdiv_eq_ediv_of_nonneg ha];have Q:=Int.ediv_nonneg ha (Int.le_of_lt hb);have h3:=Int.ediv_le_self b ha;omega
 .have h4:a.tdiv b = -((-a).tdiv b):=by rw[Int.neg_tdiv,Int.neg_neg]
  rw[h4,Int.tdiv_eq_ediv_of_nonneg (by omega)];have Q:=Int.ediv_nonneg (show 0<=-a by omega) (Int.le_of_lt hb);have h3:=Int.ediv_le_self b (show 0<=-a by omega);omega
def Z.quo{t yt:TypeId}{x y:Operand}{a b:Int}(M:bG env x=some (.int .i64 a))(U:bG env y=some (.int .i64 b))(h0:0<=a)(I:a<=9223372036854775807)(hb:0<b):Z P L env (.binOp .quo t x y yt) ty (.int .i64 (a / b)) :=
 Z.mk (λ_ _ _ w ea _ _ _ _ _=>ik (aI ea M) (aI ea U) (by
  have A : b≠0:=by omega
  have Q:=Int.ediv_nonneg h0 (Int.le_of_lt hb);have h3:=Int.ediv_le_self b h0;simp[binOp,Op.intDiv,A,Int.tdiv_eq_ediv_of_nonneg h0,wrap_i64 (show -9223372036854775808<=a / b by omega) (show a / b<=9223372036854775807 by omega)]))
def Z.y6{t yt:TypeId}{x y:Operand}{a b:Int}(M:bG env x=some (.int .i64 a))(U:bG env y=some (.int .i64 b))(h0 : -9223372036854775808<=a)(I:a<=9223372036854775807)(hb:0<b):Z P L env (.binOp .quo t x y yt) ty (.int .i64 (a.tdiv b)) :=
 Z.mk (λ_ _ _ w ea _ _ _ _ _=>ik (aI ea M) (aI ea U) (by
  have A : b≠0:=by omega
  have Q:=AA h0 I hb;simp[binOp,Op.intDiv,A,wrap_i64 Q.1 Q.2]))
def Z.rem{t yt:TypeId}{x y:Operand}{k:IntKind}{a b:Int}(M:bG env x=some (.int k a))(U:bG env y=some (.int k b))(h0:0<=a)(hb:0<b):Z P L env (.binOp .rem t x y yt) ty (.int k (a % b)) :=
 Z.mk (λ_ _ _ w ea _ _ _ _ _=>ik (aI ea M) (aI ea U) (by
  have A : b≠0:=by omega
  simp[binOp,Op.intDiv,A,Int.tmod_eq_emod_of_nonneg h0]))
def Z.x9{t yt:TypeId}{x y:Operand}{k:IntKind}{a b:Int}(M:bG env x=some (.int k a))(U:bG env y=some (.int k b))(hb:b≠0):Z P L env (.binOp .rem t x y yt) ty (.int k (a.tmod b)) :=
 Z.mk (λ_ _ _ w ea _ _ _ _ _=>ik (aI ea M) (aI ea U) (by simp[binOp,Op.intDiv,hb]))
def Z.neg{t:TypeId}{x:Operand}{a:Int}(M:bG env x=some (.int .i64 a))(h0 : -9223372036854775807<=a)(I:a<=9223372036854775807):Z P L env (.unOp .neg t x) ty (.int .i64 (-a)) :=
 Z.mk (λ_ _ _ w ea _ _ _ _ _=>by
  have hw:IntKind.i64.wrap (0 - a) = -a:=by rw[wrap_i64 (by omega) (by omega)];omega
  simp[execOp,aI ea M,Op.unary,Op.intArith] at hw ⊢;exact hw)
def Z.not{t:TypeId}{x:Operand}{φ:Prop}[Decidable φ](M:bG env x=some (.bool (dB φ))):Z P L env (.unOp .not t x) ty (.bool (dB (¬φ))) :=
 Z.mk (λ_ _ _ w ea _ _ _ _ _=>by simp[execOp,aI ea M,Op.unary,dF])
def Z.o8{t:TypeId}{x:Operand}{b:Bool}(M:bG env x=some (.bool b)):Z P L env (.unOp .not t x) ty (.bool (!b)) :=
 Z.mk (λ_ _ _ w ea _ _ _ _ _=>by simp[execOp,aI ea M,Op.unary])
def Z.y8{t:TypeId}{x:Operand}(M:bG env x=some (.bool true)):Z P L env (.unOp .not t x) ty (.bool false):=Z.o8 M
def Z.y9{t:TypeId}{x:Operand}(M:bG env x=some (.bool false)):Z P L env (.unOp .not t x) ty (.bool true):=Z.o8 M
def Z.conv{s t:TypeId}{x:Operand}{k k' : IntKind}{a:Int}[hs:Qv P s k][ht:Qv P t k'](M:bG env x=some (.int k a)):Z P L env (.convert s t x) ty (.int k' (k'.wrap a)) :=
 Z.mk (λ_ _ _ w ea _ _ _ _ _=>by simp[execOp,aI ea M,convert,run_underlying hs.under,run_underlying ht.under,Conv.intToInt])
def Z.min2{x y:Operand}{ats:Array TypeId}{k k' : IntKind}{a b:Int}(M:bG env x=some (.int k a))(U:bG env y=some (.int k' b)):Z P L env (.call { callee:=.builtin .min,args:=#[x,y],argTypes:=ats }) ty (.int k (min a b)) :=
 Z.mk (λ_ _ _ w ea _ _ _ _ _=>by
  have hm:(if b<a then b else a)=min a b:=by split<;>omega
  simp[execOp,resolve,invoke,builtin,aI ea M,aI ea U,Builtin.min_,Builtin.min2,hm])
def Z.max2{x y:Operand}{ats:Array TypeId}{k k' : IntKind}{a b:Int}(M:bG env x=some (.int k a))(U:bG env y=some (.int k' b)):Z P L env (.call { callee:=.builtin .max,args:=#[x,y],argTypes:=ats }) ty (.int k (max a b)) :=
 Z.mk (λ_ _ _ w ea _ _ _ _ _=>by
  have hm:(if a<b then b else a)=max a b:=by split<;>omega
  have A : (if b>a then b else a)=max a b:=by split<;>omega
  simp[execOp,resolve,invoke,builtin,aI ea M,aI ea U,Builtin.max_,Builtin.max2];first|exact hm|exact A | omega)
def Z.nilCheck{x:Operand}{a:Addr}(M:bG env x=some (.pointer (some a))):Z P L env (.nilCheck x) ty (.pointer (some a)) :=
 Z.mk (λ_ _ _ w ea _ _ _ _ _=>by simp[execOp,aI ea M])
def kG{t:TypeId}{u v:Value}{Δ:Bool}{w:World}(h:∀n,(Op.equalIn (n+1) t u v).run P w=.ok Δ w):(Op.equal t u v).run P w=.ok Δ w:=h 9999
def ni{t e:TypeId}{p q:OA}{w:World}{n:Nat}(he:P.underlying t=some (.pointer e))(hq:p=none\/q=none):(Op.equalIn (n+1) t (.pointer p) (.pointer q)).run P w=.ok (decide (p=q)) w:=by
 rcases hq with rfl|rfl
 .cases q<;>simp[Op.equalIn,run_underlying he]
 .cases p<;>simp[Op.equalIn,run_underlying he]
def AG{t e:TypeId}{ad:OA}{k c:Nat}{w:World}{n:Nat}(he:P.underlying t=some (.slice e)):(Op.equalIn (n+1) t (.slice ad k c) (.slice none 0 0)).run P w=.ok (decide (ad=none)) w:=by
 cases ad<;>simp[Op.equalIn,run_underlying he]
def Z.u4{t yt:TypeId}{x y:Operand}{a:Addr}[ht:T9 P t](M:bG env x=some (.pointer (some a)))(U:bG env y=some (.pointer none)):Z P L env (.binOp .eql t x y yt) ty (.bool false) :=
 Z.mk (λ_ _ _ w ea _ _ _ _ _=>by
  obtain⟨e,he⟩:=ht.under;have I:=kG (P:=P) (w:=w) (λn=>ni (n:=n) (p:=some a) (q:=none) he (.inr rfl));simp[execOp,aI ea M,aI ea U,eqGuard,binOp,I])
def Z.t7{t yt:TypeId}{x y:Operand}{a:Addr}[ht:T9 P t](M:bG env x=some (.pointer (some a)))(U:bG env y=some (.pointer none)):Z P L env (.binOp .neq t x y yt) ty (.bool true) :=
 Z.mk (λ_ _ _ w ea _ _ _ _ _=>by
  obtain⟨e,he⟩:=ht.under;have I:=kG (P:=P) (w:=w) (λn=>ni (n:=n) (p:=some a) (q:=none) he (.inr rfl));simp[execOp,aI ea M,aI ea U,eqGuard,binOp,I])
def Z.p6{t yt:TypeId}{x y:Operand}[ht:T9 P t](M:bG env x=some (.pointer none))(U:bG env y=some (.pointer none)):Z P L env (.binOp .eql t x y yt) ty (.bool true) :=
 Z.mk (λ_ _ _ w ea _ _ _ _ _=>by
  obtain⟨e,he⟩:=ht.under;have I:=kG (P:=P) (w:=w) (λn=>ni (n:=n) (p:=none) (q:=none) he (.inr rfl));simp[execOp,aI ea M,aI ea U,eqGuard,binOp,I])
def Z.w5{t yt:TypeId}{x y:Operand}{ad:OA}{n c ζ sz bb:Nat}{z:χ}[ht:M9 P t ζ sz bb z](M:bG env x=some (.slice ad n c))(U:bG env y=some (.slice none 0 0)):Z P L env (.binOp .eql t x y yt) ty (.bool (dB (ad=none))) :=
 Z.mk (λ_ _ _ w ea _ _ _ _ _=>by
  have I:=kG (P:=P) (w:=w) (λm=>AG (n:=m) (ad:=ad) (k:=n) (c:=c) ht.under);simp[execOp,aI ea M,aI ea U,eqGuard,binOp,I,dF])
def qx{s f:Nat}{off:Nat}[hf:dh P s f off]{a:Addr}{w:World}:(Instr.fieldAt s (.pointer (some a)) f).run P w=.ok (.pointer (some (a.add off))) w:=by
 obtain⟨fs,fd,i,I,Q,h3,h4,h5⟩:=hf.run;subst h3;simp[Instr.fieldAt,run_underlying I,Q,Instr.sureAddr,fieldPlace,sizeOf,typeInfo,h4,h5]
def Z.fieldAddr{s f:Nat}{x:Operand}{b off:Nat}[dh P s f off](M:bG env x=some (.pointer (some ⟨b,0,none⟩))):Z P L env (.fieldAddr s x f) ty (.pointer (some ⟨b,off,none⟩)) :=
 Z.mk (λ_ _ _ w ea _ _ _ _ _=>by simp[execOp,aI ea M,qx,fV])
def Z.f8{s f:Nat}{x:Operand}{b o off:Nat}[dh P s f off](M:bG env x=some (.pointer (some ⟨b,o,none⟩))):Z P L env (.fieldAddr s x f) ty (.pointer (some ⟨b,o+off,none⟩)) :=
 Z.mk (λ_ _ _ w ea _ _ _ _ _=>by simp[execOp,aI ea M,qx,iR])
def Z.d7{s f:Nat}{x:Operand}{ad:OA}{sz j off:Nat}[dh P s f off]{α:Type}{Η:α->χ}{G:List α}[hr:F5 L ad α Η sz G](M:bG env x=some (.pointer (OQ ad sz j 0)))(hj:j<G.length):Z P L env (.fieldAddr s x f) ty (.pointer (OQ ad sz j off)) :=
 Z.mk (λθ R _ w ea s _ _ _ _=>by
  obtain⟨_,Q⟩:=hr.rd θ R w s;rcases Q with Q|⟨a,rfl,_⟩
  .subst Q;simp at hj
  .have e:(a.add (j*sz+0)).add off=a.add (j*sz+off):=by
    unfold Addr.add;(repeat' split)<;>first|rfl|omega|(simp;omega)|(simp_all;done)
   simp only[Nat.add_zero] at e;simp[execOp,aI ea M,OQ,qx,e])
def Z.indexAddr{t:TypeId}{x i:Operand}{ad:OA}{n c ζ sz bb:Nat}{z:χ}{j:Int}{k:IntKind}{α:Type}{Η:α->χ}{G:List α}[ht:M9 P t ζ sz bb z][hr:F5 L ad α Η sz G]
  (M:bG env x=some (.slice ad n c)) (hi:bG env i=some (.int k j)) (h0:0<=j) (I:j<n) (hn:n<=G.length):Z P L env (.indexAddr t x i) ty (.pointer (OQ ad sz j.toNat 0)) :=
 Z.mk (λθ R _ w ea s _ _ _ _=>by
  obtain⟨_,Q⟩:=hr.rd θ R w s;obtain⟨ii,z0,i1,i2,i3,i4,i5⟩:=ht.Γ;rcases Q with Q|⟨a,rfl,_⟩
  .subst Q;simp at hn;omega
  .simp[execOp,aI ea M,aI ea hi,Instr.indexAt,asIntOf,run_underlying ht.under,h0,I,sizeOf,typeInfo,i1,i4,OQ])
def Z.j5{t:TypeId}{x i:Operand}{b n c ζ sz bb:Nat}{z:χ}{j:Int}{k:IntKind}[ht:M9 P t ζ sz bb z]
  (M:bG env x=some (.slice (some ⟨b,0,none⟩) n c)) (hi:bG env i=some (.int k j)) (h0:0<=j) (I:j<n):Z P L env (.indexAddr t x i) ty (.pointer (some ⟨b,j.toNat*sz,none⟩)) :=
 Z.mk (λθ R _ w ea s _ _ _ _=>by
  obtain⟨ii,z0,i1,i2,i3,i4,i5⟩:=ht.Γ;simp[execOp,aI ea M,aI ea hi,Instr.indexAt,asIntOf,run_underlying ht.under,h0,I,sizeOf,typeInfo,i1,i4,fV])
def Sat.TD{θ:Th}{b an:Nat}{cs:χ}{L R:Ι}{w:World}(s:Sat θ (L++R) w){G1:Ι}(hp:L.Perm (obj b an cs::G1)):w.heap[b]? = some (.cells cs.toArray an (0,0)) :=
 (s.perm (hp.append_right R)).M8
def Z.d8{t:TypeId}{x:Operand}{b k an:Nat}{cs:χ}{G1:Ι}{v:Value}[ht:L8 P t][hp:Pq L b an cs G1](M:bG env x=some (.pointer (some ⟨b,k,none⟩)))(hv:cs[k]? = some v):Z P L env (.load t x) ty (v) :=
 Z.mk (λθ R _ w ea s _ _ _ _=>by
  have hb:=s.TD hp.perm;simp[execOp,aI ea M,Instr.loadAt,Instr.sureAddr,loadVar,ht.run,ej hb,hv])
def Z.c9{t:TypeId}{x:Operand}{b an n:Nat}{cs:χ}{G1:Ι}[ht:Nw P t n][hp:Pq L b an cs G1](M:bG env x=some (.pointer (some ⟨b,0,none⟩)))(hn:cs.length=n):Z P L env (.load t x) ty (.agg cs.toArray) :=
 Z.mk (λθ R _ w ea s _ _ _ _=>by
  have hb:=s.TD hp.perm;have T:=run_loadCells_list (P:=P) w ⟨b,0,none⟩ cs (λj v hv=>by rw[fV,ej hb];simpa using hv);rw[hn] at T;simp[execOp,aI ea M,Instr.loadAt,Instr.sureAddr,loadVar,ht.run,Nw.QL,T])
def Z.f7{t:TypeId}{x:Operand}{ad:OA}{sz j o:Nat}{α:Type}[Inhabited α]{Η:α->χ}{G:List α}{v:Value}[ht:L8 P t][hr:F5 L ad α Η sz G]
  (M:bG env x=some (.pointer (OQ ad sz j o))) (hj:j<G.length) (ho:o<sz) (hv:(Η G[j]!)[o]? = some v):Z P L env (.load t x) ty (v) :=
 Z.mk (λθ R _ w ea s _ _ _ _=>by
  obtain⟨I,Q⟩:=hr.rd θ R w s;rcases Q with Q|⟨a,rfl,h3⟩
  .subst Q;simp at hj
  .have h4:=h3 (j*sz+o) v (by rw[nw I hj ho];exact hv);simp[execOp,aI ea M,OQ,Instr.loadAt,Instr.sureAddr,loadVar,ht.run,h4])
def Z.d9{t:TypeId}{x:Operand}{ad:OA}{sz j:Nat}{α:Type}[Inhabited α]{Η:α->χ}{G:List α}[ht:Nw P t sz][hr:F5 L ad α Η sz G]
  (M:bG env x=some (.pointer (OQ ad sz j 0))) (hj:j<G.length):Z P L env (.load t x) ty (.agg (Η G[j]!).toArray) :=
 Z.mk (λθ R _ w ea s _ _ _ _=>by
  obtain⟨I,Q⟩:=hr.rd θ R w s;rcases Q with Q|⟨a,rfl,h3⟩
  .subst Q;simp at hj
  .have A:(Η G[j]!).length=sz:=I _ (by rw[List.getElem!_eq_getElem?_getD,List.getElem?_eq_getElem hj];simp)
   have T:=run_loadCells_list (P:=P) w (a.add (j*sz)) (Η G[j]!) (λo v hv=>by
    have ho:o<sz:=by rw[<-A];exact(List.getElem?_eq_some_iff.1 hv).1
    have e:(a.add (j*sz)).add o=a.add (j*sz+o):=by
     unfold Addr.add;(repeat' split)<;>first|rfl|omega|(simp;omega)|(simp_all;done)
    rw[e];exact h3 _ v (by rw[nw I hj ho];exact hv))
   rw[A] at T;simp[execOp,aI ea M,OQ,Instr.loadAt,Instr.sureAddr,loadVar,ht.run,Nw.QL,T])
def mo{w:World}{b k:Nat}{cs:Array Value}{an:TypeId}{fz:Nat×Nat}(v:Value)(h:w.heap[b]? = some (.cells cs an fz)):(w.setCell ⟨b,k,none⟩ v).heap[b]? = some (.cells (cs.setIfInBounds k v) an fz):=by
 simp[World.setCell,Array.getElem?_modify,h]
def lW{w:World}{b k j:Nat}(v:Value)(h:j≠b):(w.setCell ⟨b,k,none⟩ v).heap[j]? = w.heap[j]?:=by
 simp only[World.setCell,Array.getElem?_modify];rw[Ο (by omega)]
def pT:χ->Nat->Value->(χ->Option (χ))->Option (χ)
 | [],_,_,_=>none
 | _::cs,0,v,k=>k (v::cs)
 | c::cs,n+1,v,k=>pT cs n v λΔ=>k (c::Δ)
def tI:∀(cs:χ) (n:Nat) (v:Value) (k:χ->Option (χ)) (Δ:χ),pT cs n v k=some Δ->n<cs.length/\k (cs.set n v)=some Δ
 | [],_,_,_,_,h=>by simp[pT] at h
 | _::cs,0,v,k,Δ,h=>by simpa [pT] using h
 | c::cs,n+1,v,k,Δ,h=>by
  have:=tI cs n v (λΔ=>k (c::Δ)) Δ (by simpa [pT] using h)
  simpa using this
def Ef.g8{t:TypeId}{x y:Operand}{b k an:Nat}{cs a3 : χ}{G1:Ι}{v:Value}[ht:L8 P t][hp:Pq L b an cs G1](M:bG env x=some (.pointer (some ⟨b,k,none⟩)))(U:bG env y=some v)(I:v.oneCell' = true)(a4:pT cs k v some=some a3)
  : Ef P L env (.store t x y) ty (λ_ Ε=>Ε = obj b an a3::G1) :=
 Ef.skip (λθ R a w ea s a7 pos af g=>by
  have s1:=s.perm (hp.perm.append_right R);have hb:w.heap[b]? = some (.cells cs.toArray an (0,0)):=s1.M8;obtain⟨a9,J⟩:=tI _ _ _ _ _ a4;have a2:cs.set k v=a3:=by simpa using J
  subst a2;have A:w.cell? ⟨b,k,none⟩=some cs[k]:=by rw[ej hb];simp
  have a6:w.frozen? ⟨b,k,none⟩=false:=by simp[World.frozen?,hb]
  have a5:v.cells=#[v]:=by cases v<;>first|rfl|cases I
  refine⟨w.setCell ⟨b,k,none⟩ v,_,?_,rfl,?_⟩
  .simp[execOp,aI ea M,aI ea U,Instr.storeAt,Instr.sureAddr,storeVar,L8.QL,a5,storeCells,Addr.add,run_store _ _ _ _ _ I,A,a6]
  .refine Sat.update s1 ⟨s.1.tape,s.1.os,s.1.output,s.1.drawn⟩ ?_ (λj x hj M=>by rw[lW v hj];exact M);rw[mo v hb];simp)
def Ef.f9{t:TypeId}{x y:Operand}{b an n:Nat}{cs vs:χ}{G1:Ι}[ht:Nw P t n][hp:Pq L b an cs G1](M:bG env x=some (.pointer (some ⟨b,0,none⟩)))(U:bG env y=some (.agg vs.toArray))(hn:vs.length=n)(hc:cs.length=n)(I:∀v∈vs,v.oneCell' = true)
  : Ef P L env (.store t x y) ty (λ_ Ε=>Ε = obj b an vs::G1) :=
 Ef.skip (λθ R a w ea s J pos af g=>by
  have s1:=s.perm (hp.perm.append_right R);have hb:w.heap[b]? = some (.cells cs.toArray an (0,0)):=s1.M8;have A:=run_storeCells_at P b 0 an vs 0 cs.toArray w hb (by simp;omega) I;refine⟨w.setRow b vs.toArray,_,?_,rfl,?_⟩
  .simp[execOp,aI ea M,aI ea U,Instr.storeAt,Instr.sureAddr,storeVar,Nw.QL,Value.cells,hn] at A ⊢;rw[A];simp[show List.drop n cs=[] by rw[<-hc];simp]
  .exact Sat.update s1 ⟨s.1.tape,s.1.os,s.1.output,s.1.drawn⟩ (setRow_heap w b _ _ an _ hb) (λj x hj M=>by rw[setRow_other w b j _ hj];exact M))
def Ef.j9{t:TypeId}{x:Operand}{vs:χ}(M:bG env x=some (.agg vs.toArray)):Ef P L env (.box t x) ty (λv Ε=>∃b,v=.pointer (some ⟨b,0,none⟩)/\Ε = obj b t vs::L) :=
 Ef.val (λθ R a w ea s A pos af g=>⟨_,w.alloc (.cells vs.toArray t),_,by simp[execOp,aI ea M,Instr.box,newVar,newRow,Value.cells],⟨_,rfl,rfl⟩,s.alloc⟩)
def Ef.k9{t:TypeId}{x:Operand}{v:Value}(M:bG env x=some v)(I:v.oneCell' = true):Ef P L env (.box t x) ty (λu Ε=>∃b,u=.pointer (some ⟨b,0,none⟩)/\Ε = obj b t [v]::L) :=
 Ef.val (λθ R a w ea s J pos af g=>⟨_,w.alloc (.cells #[v] t),_,by
  have A:v.cells=#[v]:=by cases v<;>first|rfl|cases I
  simp[execOp,aI ea M,Instr.box,newVar,newRow,A],⟨_,rfl,rfl⟩,s.alloc⟩)
class Nj (P:Program) (an:Nat) (z:outParam (χ)):Prop where
 zero:(P.info? an).map (λi=>i.zero.map (·.cells.toList))=some (some z)
def Nj.run{P:Program}{an:Nat}{z:χ}[h:Nj P an z](w:World):∃z0,(zeroValue an).run P w=.ok z0 w/\z0.cells=z.toArray:=by
 have I:=h.zero;cases hi:P.info? an with
 | none=>rw[hi] at I;cases I
 | some i =>
  rw[hi] at I;simp at I;obtain⟨z0,hz,A⟩:=I;exact⟨z0,by simp[zeroValue,typeInfo,hi,hz],by rw[<-A]⟩
def Ef.alloc{t:TypeId}{z:χ}[hz:Nj P t z]:Ef P L env (.alloc t) ty (λu Ε=>∃b,u=.pointer (some ⟨b,0,none⟩)/\Ε = obj b t z::L) :=
 Ef.val (λθ R a w ea s A pos af g=>⟨_,w.alloc (.cells z.toArray t),_,by
  obtain⟨z0,I,Q⟩:=hz.run w;simp[execOp,Instr.alloc,I,newVar,newRow,Q],⟨_,rfl,rfl⟩,s.alloc⟩)
def sV(z:χ)(sz len:Nat)(Γ:List (Nat×Value)):Option (χ) :=
 (Instr.fill (λi=>some (i*sz,sz)) ((Array.range (len*sz)).map (z.toArray[· % z.length]!)) Γ).map (·.toList)
def Ef.buildSlice{t:TypeId}{len:Nat}{ps:Array (Nat×Operand)}{vs:List (Nat×Value)}{ζ sz bb:Nat}{z cs:χ}[ht:M9 P t ζ sz bb z](hv:kM env ps.toList=some vs)(T:len*sz<=16777216)(hc:sV z sz len vs=some cs)
  : Ef P L env (.buildSlice t len ps) ty (λv Ε=>∃b,v=.slice (some ⟨b,0,none⟩) len len/\Ε = obj b ζ cs::L) :=
 Ef.val (λθ R a w ea s a4 pos af g=>⟨.slice (some ⟨w.heap.size,0,none⟩) len len,w.alloc (.cells cs.toArray ζ),_,by
  obtain⟨ii,z0,i1,i2,i3,i4,i5⟩:=ht.Γ
  have A:ps.map (λp=>(p.1,a p.2))=vs.toArray:=by
   apply Array.ext';simpa using ea.pairs ps.toList vs hv
  have hz:z0.cells=z.toArray:=by rw[<-i3]
  simp only[sV,Option.map_eq_some_iff] at hc;obtain⟨ar,J,a3⟩:=hc;subst a3;have a2:¬len*sz>2 ^ 24:=by omega
  simp only[execOp,A,Instr.buildSlice,Sem.run_bind,run_underlying ht.under,Result.andThen_ok,sizeOf,typeInfo,run_program,i1,Sem.run_pure,i4,a2,if_false,zeroValue];by_cases h0:len*sz=0
  .simp only[h0,if_true];have e0:(Array.range 0:Array Nat)=#[]:=rfl;simp only[h0,e0,List.map_toArray,List.map_nil] at J ⊢;simp only[J];simp[newRow]
  .simp only[h0,if_false,Sem.run_bind,run_program,Result.andThen_ok,i1,Sem.run_pure,i2,hz,List.size_toArray];simp only[J];simp[newRow],⟨_,rfl,rfl⟩,s.alloc⟩)
def Z.w8{t:TypeId}{x:Operand}{ad:OA}{n c ζ sz bb:Nat}{z:χ}[ht:M9 P t ζ sz bb z](M:bG env x=some (.slice ad n c)):Z P L env (.call { callee:=.builtin .len,args:=#[x],argTypes:=#[t] }) ty (.int .i64 (n:Int)) :=
 Z.mk (λ_ _ _ w ea _ _ _ _ _=>by simp[execOp,resolve,invoke,builtin,aI ea M,Builtin.len_,run_underlying ht.under,goInt])
def sS{α:Type}{θ:Th}{Η:α->χ}{sz ζ:Nat}{ad:OA}{cap:Nat}{G:List α}{L:Ι}{w:World}(s:Sat θ (μ Η sz ζ ad cap G::L) w):w.ownsRow 0 ζ sz (.slice ad G.length cap) G.length (G.flatMap Η):=by
 obtain⟨I,Q,h3,h4⟩:=s.Qw;refine⟨dd I,?_⟩;rcases h4 with⟨rfl,rfl⟩|⟨g,A,rfl,f1,f2,f3⟩
 .left;have:G.length=0:=by omega
  simp[this]
 .exact .inr ⟨g,cap,A,rfl,Nat.zero_le _,f3.M8,Q,h3,f1,f2⟩
def qE{α:Type}{θ:Th}{Η:α->χ}{sz ζ:Nat}{ad:OA}{cap:Nat}{G ys:List α}{L:Ι}{w dH : World}(s:Sat θ (μ Η sz ζ ad cap G::L) w)(U:∀x∈ys,(Η x).length=sz){v' : Value}
  (ho:dH.ownsRow 0 ζ sz v' (G.length+ys.length) (G.flatMap Η++ys.flatMap Η)) (hg:w.grownBy dH (Value.ownBlock (.slice ad G.length cap))) (b8:w.drawn<=dH.drawn) (a3:v'.ownBlock=Value.ownBlock (.slice ad G.length cap)\/v'.ownBlock=some w.heap.size) :
  ∃b3 A,v' = .slice b3 (G++ys).length A/\Sat θ (μ Η sz ζ b3 A (G++ys)::L) dH:=by
 obtain⟨I,Q,h3,h4⟩:=s.Qw
 have a7:∀x∈G++ys,(Η x).length=sz:=λx M=>by
  rcases J4 M with M|M
  .exact I x M
  .exact U x M
 have ok:θ.ok dH:=⟨by rw[hg.tape];exact s.1.tape,by rw[hg.os];exact s.1.os,by rw[hg.output];exact s.1.output,Nat.le_trans s.1.drawn b8⟩;rcases ho.2 with⟨rfl,hn⟩|⟨g,A,b4,rfl,_,a9,b9,b6,b7,a4⟩
 .have M:G=[]:=List.eq_nil_of_length_eq_zero (by omega);have U:ys=[]:=List.eq_nil_of_length_eq_zero (by omega);subst M U;refine⟨none,0,rfl,Sat.d7 Η sz ζ ?_⟩;refine s.tail.keep ok (λk o hk=>?_);have a5:k<w.heap.size:=(Array.getElem?_eq_some_iff.1 hk).1;by_cases a2:some k=Value.ownBlock (.slice ad ([]:List α).length cap)
  .rcases h4 with⟨rfl,rfl⟩|⟨g,b4,rfl,f1,f2,f3⟩
   .simp[Value.ownBlock] at a2
   .simp[Value.ownBlock] at a2 a3
  .rw[hg.block k a5 a2];exact hk
 .refine⟨some ⟨g,0,none⟩,A,by simp,?_⟩;have b0:(G++ys).length=G.length+ys.length:=by simp
  have fin:Sat θ (sh g (.cells b4 ζ (0,0))::L) dH->Sat θ (μ Η sz ζ (some ⟨g,0,none⟩) A (G++ys)::L) dH:=λs' =>
   s'.Rm a7 (by omega) b6 b7 (by rw[b0,a4];simp)
  apply fin;simp only[Value.ownBlock] at a3 hg;rcases h4 with⟨rfl,rfl⟩|⟨g0,b5,rfl,f1,f2,f3⟩
  .simp at a3;subst a3;exact s.tail.fresh ok (Nat.le_refl _) a9 (λk x hk=>by rw[hg.block k (Array.getElem?_eq_some_iff.1 hk).1 (by simp)];exact hk)
  .simp at a3;rcases a3 with rfl|rfl
   .exact f3.update ok a9 (λk x hk M=>by rw[hg.block k (Array.getElem?_eq_some_iff.1 M).1 (by simpa using hk)];exact M)
   .have s5:=f3.tail
    have c0:g0≠w.heap.size:=by
     have:=(Array.getElem?_eq_some_iff.1 f3.M8).1
     omega
    -- VS old row is given up
    obtain⟨a6,ι,h,a,b1,c,G6,E4,D5,d1,d2,d3,d4,d5,d6⟩:=f3
    have s6:Sat θ L { w with heap:=w.heap.setIfInBounds g0 ((dH.heap[g0]?).getD default) }:=by
     refine⟨⟨a6.tape,a6.os,a6.output,a6.drawn⟩,ι,D5,a.mono (Hp.sub.refl _) d4,?_,?_,d6⟩
     .intro k o hk
      have J:k≠g0:=by
       rintro rfl;have:=a k o hk
       rw[d3 k _ d5] at this;cases this
      have:=b1 k o hk
      simp only[ie] at this ⊢;rw[Array.getElem?_setIfInBounds_ne (Ne.symm J)];exact this
     .intro k o hk
      have J:k≠g0:=by
       rintro rfl;have:=d2 k _ d5
       rw[hk] at this;cases this
      have:=c k o (d4 k o hk)
      simp only[ie] at this ⊢;rw[Array.getElem?_setIfInBounds_ne (Ne.symm J)];exact this
    refine s6.fresh ok (by simp) a9 (λk x hk=>?_);by_cases J:k=g0
    .subst J
     have a5:k<w.heap.size:=by
      have:=c k _ (d3 k _ d5)
      exact(Array.getElem?_eq_some_iff.1 this).1
     simp[a5] at hk;have b2 : k<dH.heap.size:=Nat.lt_of_lt_of_le a5 hg.size;rw[Array.getElem?_eq_getElem b2] at hk ⊢;simpa using hk
    .simp only at hk;rw[Array.getElem?_setIfInBounds_ne (Ne.symm J)] at hk;rw[hg.block k (Array.getElem?_eq_some_iff.1 hk).1 (by simpa using J)];exact hk
theorem Ef.a8{t:TypeId}{x y:Operand}{α:Type}{Η:α->χ}{ad:OA}{n c sz ζ bb cap b an:Nat}{G:List α}{z cs:χ}{R1 R2:Ι}(e:α)[ht:M9 P t ζ sz bb z][hp:RH L ad α Η sz ζ cap G R1][hq:Pq R1 b an cs R2]
  (M:bG env x=some (.slice ad n c)) (U:bG env y=some (.slice (some ⟨b,0,none⟩) 1 1)) (he:cs=Η e) (hn:n=G.length) (hc:c=cap) (hs:cs.length=sz) (I:∀u∈cs,u.oneCell' = true) (hb:(G.length+1)*bb<=140737488355328) (hm:G.length+1<=9223372036854775807)
  : Ef P L env (.call { callee:=.builtin .append,args:=#[x,y],argTypes:=#[t,t] }) ty (λv Ε=>∃J A,v=.slice J (G++[e]).length A/\Ε = μ Η sz ζ J A (G++[e])::R2) :=
 Ef.val (λθ R a w ea s a4 pos af g=>by
  subst hn hc he;have s1:=s.perm (hp.perm.append_right R);have a2:=sS s1;have a3:=Sat.TD (R:=R) (show Sat θ (R1++R) w from s1.tail) hq.perm;obtain⟨ii,z0,i1,i2,i3,i4,i5⟩:=ht.Γ;obtain⟨v',dH,hr,Q,h3,_,h5⟩:=run_append_own_at (P:=P) w 0 t ty ζ ii z0 sz bb ht.under i1 i2 i4 i5 (by rw[<-ht.Tf,<-i3];simp) ht.pos _ _ _ a2 ⟨b,0,none⟩ 1 1 (Η e) (by omega) (λj u hu=>by rw[fV,ej a3];simpa using hu) I (by simp only[maxLen];omega) hb (Nat.zero_le _);obtain⟨J,A,rfl,s2⟩:=qE (ys:=[e]) s1 (by simpa using hs) (by simpa using Q) h3 (lX _ hr) h5;refine⟨_,dH,_,?_,⟨J,A,rfl,rfl⟩,?_⟩
  .simp[execOp,resolve,invoke,builtin,aI ea M,aI ea U,hr]
  .have s3:Sat θ (μ Η sz ζ J A (G++[e])::(obj b an (Η e)::R2++R)) dH:=s2.perm ((hq.perm.append_right R).cons _);exact(s3.perm (List.Perm.swap _ _ _)).tail)
def Ef.c9{t:TypeId}{x y:Operand}{α:Type}{Η:α->χ}{ad a4:OA}{n c n2 c2 sz ζ bb cap:Nat}{G ys:List α}{z:χ}{R1:Ι}[ht:M9 P t ζ sz bb z][hp:RH L ad α Η sz ζ cap G R1][hq:F5 R1 a4 α Η sz ys]
  (M:bG env x=some (.slice ad n c)) (U:bG env y=some (.slice a4 n2 c2)) (hn:n=G.length) (hc:c=cap) (a9:n2=ys.length) (I:∀e∈ys,∀u∈Η e,u.oneCell' = true) (hb:(G.length+ys.length)*bb<=140737488355328) (hm:G.length+ys.length<=9223372036854775807)
  : Ef P L env (.call { callee:=.builtin .append,args:=#[x,y],argTypes:=#[t,t] }) ty (λv Ε=>∃a3 A,v=.slice a3 (G++ys).length A/\Ε = μ Η sz ζ a3 A (G++ys)::R1) :=
 Ef.val (λθ R a w ea s b0 pos af g=>by
  subst hn hc a9;have s1:=s.perm (hp.perm.append_right R);have a6:=sS s1;obtain⟨g1,g2⟩:=hq.rd θ R w s1.tail;obtain⟨ii,z0,i1,i2,i3,i4,i5⟩:=ht.Γ
  have a7 : ∀u∈ys.flatMap Η,u.oneCell' = true:=λu hu=>by
   obtain⟨e,he,hu⟩:=List.mem_flatMap.1 hu;exact I e he u hu
  rcases a4 with _|a2
  .rcases g2 with g2|⟨a,ha,_⟩
   .subst g2;refine⟨.slice ad G.length c,w,_,?_,⟨ad,c,by simp,rfl⟩,by simpa using s1⟩;have a5:G.length<=c:=s1.Qw.2.1;simp[execOp,resolve,invoke,builtin,aI ea M,aI ea U,Builtin.append_,run_underlying ht.under,sizeOf,typeInfo,i1,Builtin.lenOf,a5,Builtin.firstCells];cases ad<;>simp[storeCells]
   .cases ha
  .have J:∀j u,(ys.flatMap Η)[j]? = some u->w.cell? (a2.add j)=some u:=by
    rcases g2 with g2|⟨a,ha,g3⟩
    .subst g2;simp
    .cases ha;exact g3
   obtain⟨v',dH,hr,Q,h3,_,h5⟩:=run_append_own_at (P:=P) w 0 t ty ζ ii z0 sz bb ht.under i1 i2 i4 i5 (by rw[<-ht.Tf,<-i3];simp) ht.pos _ _ _ a6 a2 ys.length c2 (ys.flatMap Η) (dd g1) J a7 (by simp only[maxLen];omega) hb (Nat.zero_le _);obtain⟨a3,A,rfl,s2⟩:=qE (ys:=ys) s1 g1 Q h3 (lX _ hr) h5;refine⟨_,dH,_,?_,⟨a3,A,rfl,rfl⟩,s2⟩;simp[execOp,resolve,invoke,builtin,aI ea M,aI ea U,hr])
