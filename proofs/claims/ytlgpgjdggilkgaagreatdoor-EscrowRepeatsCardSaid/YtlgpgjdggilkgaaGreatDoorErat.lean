/- Lemmas. -/
import Derived.Test.YtlgpgjdggilkgaaGreatDoorEras
set_option linter.all false
set_option maxHeartbeats 1000000
namespace Go.Proofs.YtlgpgjdggilkgaaGreatDoor
section
open Go.V
attribute [local irreducible] Δ R GP Ο h2 O Ef A8 A CB GB V.Enters
def Rc(f:Int->Int->Int)(a i n:Int):Int->Int->Int:=λx y=>if x=a/\y=i then n else f x y
structure Re (f:Int->Int->Int):Prop where
 bd:∀a i,0<=f a i/\f a i<=1099511627776
 zero:∀i,f 0 i=0
theorem Re.K6{f:Int->Int->Int}(h:Re f){a i n:Int}(ha:a≠0)(J:0<=n)(U:n<=1099511627776):Re (Rc f a i n):=by
 refine⟨λx y=>?_,λy=>?_⟩
 .unfold Rc;split
  .omega
  .exact h.bd x y
 .unfold Rc;rw[Ω B];exact h.zero y
def Pw(s:C8)(m:A9):LL:=if s.Κ=5 then m.Ζ else[]
def Px(s:C8)(m:A9):LL:=if s.Κ=9/\m.Ψ=0 then m.Ζ else[]
end
end Go.Proofs.YtlgpgjdggilkgaaGreatDoor
namespace Go.V
section
variable {P:Program}{L:LH}{env:Env}{ty:TypeId}
def O.k6{t:TypeId}{x hi mx:Operand}{M:OA}{n c Τ sz bb:Nat}{z:LV}{k k' : IntKind}{j:Int}[ht:IJ P t Τ sz bb z](K:χ env x=some (.slice M n c))(hh:χ env hi=some (.int k j))(hm:χ env mx=some (.int k' j))(h0:0<=j)(J:j<=c):O P L env (.slice t x none (some hi) (some mx)) ty (.slice M j.toNat j.toNat) :=
 O.mk (λ_ _ _ w ea _ _ _ _ _=>by
  obtain⟨ii,z0,i1,i2,i3,i4,i5⟩:=ht.Ζ;have U:j<=(j.toNat:Int):=B;simp[execOp,aH ea K,aH ea hh,aH ea hm,Instr.sliceAt,Instr.slice,run_underlying ht.under,Instr.sliceBounds,Instr.sliceBound,asIntOf,h0,J,U,sizeOf,typeInfo,i1];rw[μ B];cases M<;>simp[Addr.add])
end
end Go.V
namespace Go.Proofs.YtlgpgjdggilkgaaGreatDoor
open Go.V
attribute [local irreducible] Δ R GP Ο h2 O Ef A8 A CB GB V.Enters
def ph{L:LH}(M:OA)(n c:Nat)(h:n<=c):Λ Ε 304 #[ae M n c] L (C9 (ae M n n) L):=by
 refine Λ.bd ?_;refine Ih ?_;intros;refine R.ev (O.k6 rfl rfl rfl B B) ac ?_;rw[aZ];refine Ih ?_;intros;exact KX.en ⟨rfl,rfl⟩
end Go.Proofs.YtlgpgjdggilkgaaGreatDoor
namespace Go.V
section
variable {P:Program}{N:Nat}{ops:Array Oper}{done:List Nat}{kP:List Im}{D3:List PE}{env:Env}{L:LH}{Ν:E1}
def GP.Qv{φ:Prop}(h:∀θ Α w,Sat θ (L++Α) w->φ)(k:φ->GP P N ops done kP D3 env L Ν):GP P N ops done kP D3 env L Ν:=λhK hp hs r θ η a w S i I a2=>let ⟨_,_,_,s⟩:=i;k (h θ _ w s) hK hp hs r θ η a w S i I a2
def Ο.Qv{s:Im}{r:Option Tmp}{op:Op}{ty:TypeId}{φ:Prop}(h:∀θ Α w,Sat θ (L++Α) w->φ)(k:φ->Ο P N ops done s kP r op ty D3 env L Ν):Ο P N ops done s kP r op ty D3 env L Ν:=λpos af g J U=>GP.Qv h (λhφ=>k hφ pos af g J U)
end
end Go.V
namespace Go.Proofs.YtlgpgjdggilkgaaGreatDoor
open Go.V
attribute [local irreducible] Δ R GP Ο h2 O Ef A8 A CB GB V.Enters
theorem Dt{d:Int}{nf:Nat}{fL:Int->Bool}{s:C8}{W:Wk}{m:A9}(hm:NR s.Κ m)(fl:List D9):du (fl++[fV d nf fL s W m])=du fl++Pw s m/\iS (fl++[fV d nf fL s W m])=iS fl++Px s m:=by
 grind [pX,pT,Pw,Px,fV,rE]
end Go.Proofs.YtlgpgjdggilkgaaGreatDoor
namespace Go.V
class Rf (P:Program) (bU:Nat) (ks:outParam (List Bool)):Prop where
 under:P.underlying bU=some (.struct (P.fieldsOf bU))
 free:P.stoodInHeld bU=false
 guard:P.eqGuardType P.depth bU=false
 Pg : (P.fieldsOf bU).toList.map (λf => (f.name == "_", f.offset, P.underlying f.type)) = (List.range ks.length).map λi => (false, i, some (if ks[i]! then TypeDesc.bool else .int .i64))
def mg:Value->Option Bool
 | .bool _=>some true
 | .int .i64 _=>some false
 | _=>none
def BO{v:Value}(h:mg v=some true):∃b,v=.bool b:=by
 unfold mg at h;split at h
 .exact⟨_,rfl⟩
 .cases h
 .cases h
def yJ{v:Value}(h:mg v=some false):∃n,v=E n:=by
 unfold mg at h;split at h
 .cases h
 .exact⟨_,rfl⟩
 .cases h
def R8 {P : Program} {Ξ : Nat} {cs : Array Value} {w : World} : ∀ (fs : List Field), (∀ f ∈ fs, f.name ≠ "_" /\ ((P.underlying f.type = some .bool /\ ∃ x, cs[f.offset]? = some (.bool x)) \/ (P.underlying f.type = some (.int .i64) /\ ∃ x, cs[f.offset]? = some (E x)))) -> (Op.eqFields (Ξ + 1) cs cs fs).run P w = .ok true w
 | [],_=>by simp[Op.eqFields]
 | f::fs,h=>by
  have ih:=R8 (Ξ:=Ξ) (w:=w) fs (λg hg=>h g (aB _ hg));obtain⟨hn,U⟩:=h f az;rcases U with⟨hu,x,K⟩|⟨hu,x,K⟩
  .have hf:∀w,(isAgg f.type).run P w=.ok false w:=λw=>by simp[isAgg,run_underlying hu]
   simp only[Op.eqFields,μ hn,Sem.run_bind,fP hf K,Result.andThen_ok,run_equalIn_bool' w Ξ f.type x x hu,beq_self_eq_true,Bool.not_true,dJ,if_false,ih]
  .have hf:∀w,(isAgg f.type).run P w=.ok false w:=λw=>by simp[isAgg,run_underlying hu]
   simp only[Op.eqFields,μ hn,Sem.run_bind,fP hf K,Result.andThen_ok,run_equalIn_int w Ξ f.type .i64 .i64 x x hu,beq_self_eq_true,Bool.not_true,dJ,if_false,ih]
def uM{P:Program}{bU:Nat}{ks:List Bool}[h:Rf P bU ks]{w:World}{Ξ:Nat}{cs:LV}(hk:cs.map mg=ks.map some) :
  (Op.equalIn (Ξ+2) bU (.agg cs.toArray) (.agg cs.toArray)).run P w=.ok true w:=by
 rw [run_equalIn_struct w (Ξ+1) bU _ _ h.under h.free];refine R8 (P.fieldsOf bU).toList (λf hf=>?_);have h6 : (f.name == "_", f.offset, P.underlying f.type) ∈ (List.range ks.length).map λi => (false, i, some (if ks[i]! then TypeDesc.bool else .int .i64)) := by rw [<- h.Pg]; exact Kg hf
 obtain⟨i,hi,he⟩:=IY h6;have hi:=List.mem_range.1 hi;simp only[Prod.mk.injEq] at he;obtain⟨e1,e2,e3⟩:=he;have XW:cs.length=ks.length:=by have:=congrArg List.length hk;simpa using this
 have hki:mg cs[i]=some ks[i]:=by
  have h7:(cs.map mg)[i]? = (ks.map some)[i]?:=by rw[hk]
  rw[List.getElem?_map,List.getElem?_map,List.getElem?_eq_getElem B,List.getElem?_eq_getElem hi] at h7;simpa using h7
 have TP:ks[i]! = ks[i]:=by rw[List.getElem!_eq_getElem?_getD,List.getElem?_eq_getElem hi];rfl
 have R9:cs.toArray[f.offset]? = some cs[i]:=by rw[<-e2];simp[show i<cs.length by omega]
 rw[TP] at e3;refine⟨by simpa using e1.symm,?_⟩;cases hb:ks[i] with
 | true =>
  rw[hb] at hki e3;obtain⟨x,K⟩:=BO hki;exact .inl ⟨e3.symm,x,by rw[R9,K]⟩
 | false =>
  rw[hb] at hki e3;obtain⟨x,K⟩:=yJ hki;exact .inr ⟨e3.symm,x,by rw[R9,K]⟩
def O.z7{P:Program}{L:LH}{env:Env}{ty:TypeId}{t yt:TypeId}{x y:Operand}{ks:List Bool}[h:Rf P t ks]{cs:LV}(K:χ env x=some (.agg cs.toArray))(Z:χ env y=some (.agg cs.toArray))(hk:cs.map mg=ks.map some) :
  O P L env (.binOp .neq t x y yt) ty (.bool false) :=
 O.mk (λθ Α _ w ea s _ _ _ _=>by
  have J:=uM (P:=P) (bU:=t) (w:=w) (Ξ:=9998) hk;simp[execOp,aH ea K,aH ea Z,run_eqGuard_agg w .neq t x y _ _ h.guard,run_neq_struct,J])
end Go.V
namespace Go.Proofs.YtlgpgjdggilkgaaGreatDoor
section
open Go.V
def DA(S:Χ)(s:C8):(bP S s).ζ=S.ζ:=by unfold bP;split<;>rfl
theorem qb(S:Χ)(s:C8):∃z,(bP S s).Ι=S.Ι++z:=by
 unfold bP;split
 .exact⟨_,rfl⟩
 .exact⟨[],ay⟩
def Dj{d:Int}(h:0<=d/\d<12)(c:D4):MG 0 (I2 d c) where
 g:={
  kQ:=h
  hx:=aC _
  Ι:=au _
  ο:=λ_ _=>⟨au _,(λ_ q=>iW q aD),List.Pairwise.nil⟩
  gr:=λ_=>⟨by show -(((0:Nat):Int)*1099511627776)<=0;omega,by show(0:Int)<=1099511627776;omega⟩
  fl:=λ_ q=>iW q aD }
 fa:=λ_ q=>iW q aD
 fn:=λ_ q=>iW q (Nat.not_lt_zero _)
 il:=au _
 rl:=au _
end
section
open Go.V
attribute [local irreducible] Δ R GP Ο h2 O Ef A8 A CB GB V.Enters
def jj{L:LH}(n k:Int)(hn:id n)(U:1<=k)(h3:k<=9223372036854775807) :
  Λ Ε 10 #[E n,E k] L (λv Y=>∃p,v=E p/\(0<=p/\p<k)/\Y = L):=by
 obtain⟨h0,J⟩:=hn;refine Λ.bd ?_;by_cases h:n<0
 .have g1:=dz (-(n+1)) (B:k≠0);have g2:=cQ (-(n+1)) (B:0<k);refine Ih ?_;intros;exact KX.en ⟨_,rfl,⟨g1,g2⟩,rfl⟩
 .have g1:=dz n (B:k≠0);have g2:=cQ n (B:0<k);refine Ih ?_;intros;exact KX.en ⟨_,rfl,⟨g1,g2⟩,rfl⟩
theorem jx{L:LH}(M:OA)(n c:Nat)(D:List Int)[C7 L M Int (a0 .i64) 1 D](hn:n=D.length)(K:∀x∈D,id x)(i k:Int)(hk:1<=k/\k<=9223372036854775807) :
  Λ Ε 67 #[ae M n c,E i,E k] L (λv Y=>∃p,v=E p/\(0<=p/\p<k)/\Y = L):=by
 subst hn;refine Λ.bd ?_;by_cases h0:0<=i
 case neg =>
  refine Ih ?_;intros;exact KX.a8 aw (A.refl _) ⟨0,rfl,B,rfl⟩
 by_cases r:i<D.length
 case neg =>
  refine Ih ?_;intros;exact KX.a8 aw (A.refl _) ⟨0,rfl,B,rfl⟩
 have hin:i.toNat<D.length:=B;refine Ih ?_;intros;refine R.ca (jj D[i.toNat]! k ay hk.1 hk.2) ?_;rintro _ _⟨p,rfl,hp,rfl⟩;refine Ih ?_;intros;exact KX.en ⟨_,rfl,hp,rfl⟩
structure O1 (s:E8):Prop where
 inp:MZ s
 cap:s.cM.length<=s.fH
 form:(s.cM.length<=1/\∀m∈s.cM,m.m.Ζ.length<=1)\/(s.cM.length<=3/\∀m∈s.cM,m.m.Ζ=[])
 C0:(∀m∈s.m.cM,m.Ψ≠m.to)->∀a i,gi a i s.m.cM<=1
def vG:∀{T:List A9},(∀m∈T,m.Ζ=[])->C2 T=T.length
 | [],_=>rfl
 | m::T,h=>by
  have J:=vG (T:=T) (λx K=>h x (aB _ K));have U:m.Ζ.length=0:=by rw[h m az];rfl
  show(m.Ζ.length+1)+C2 T=T.length+1;omega
theorem O1.k{s:E8}(h:O1 s):C2 s.m.cM<=3:=by
 have hl:s.m.cM.length=s.cM.length:=ah _;rcases h.form with⟨J,U⟩|⟨J,U⟩
 .show C2 (s.cM.map G0.m)<=3;match hm:s.cM,J,U with
  | [],_,_=>exact aC _
  | [m],_,U =>
   have:=U m ay
   show(m.m.Ζ.length+1)+0<=3;omega
 .rw[vG (λm hm=>by
   obtain⟨u,hu,rfl⟩:=IY hm;exact U u hu),hl]
  exact J
theorem pV{T:List G0}(h:∀m∈T,m.m.Ζ=[]):(∀m∈T,m.m.Ζ.length<=9223372036854775807)/\(∀m∈T,m.m.Ζ.length<=m.F6)/\∀m∈T,∀p∈m.m.Ζ,p.1<=9223372036854775807 :=
 by grind
end
end Go.Proofs.YtlgpgjdggilkgaaGreatDoor
namespace Go.V
section tri
variable {P:Program}{f:FuncId}{args:Array Value}{L:LH}{post post' : Value->LH->Prop}
def Λ.c9{α:Type}{g:α->LH}(he:Enters P f)(h:∀x,Λ P f args (g x++L) post):Λ P f args (hex (λx=>bW (g x))::L) post :=
 ⟨he,λθ Α w s=>by
  obtain⟨x,s1⟩:=Sat.NK (show Sat θ (hex (λx=>bW (g x))::(L++Α)) w from s);exact(h x).calls θ Α w (by rw[ax];exact s1.KY)⟩
def Λ.c8{φ:Prop}(he:Enters P f)(h:φ->Λ P f args L post):Λ P f args (dp φ::L) post :=
 ⟨he,λθ Α w s=>(h (Sat.Nq (show Sat θ (dp φ::(L++Α)) w from s))).calls θ Α w s.tail⟩
def Λ.LO(h:Λ P f args L post)(hp:∀v Y,post v Y->∃Mt,post' v Mt/\A Y Mt):Λ P f args L post' :=
 ⟨h.enters,λθ Α w s=>(h.calls θ Α w s).mono λ_ _ ⟨v,Y,a,b,c⟩=>by
  obtain⟨Mt,J,U⟩:=hp _ _ b;exact⟨v,Mt,a,J,U θ Α _ c⟩⟩
def Λ.d9{φ:Prop}(he:Enters P f)(hφ:∀θ Α w,Sat θ (L++Α) w->φ)(h:φ->Λ P f args L post):Λ P f args L post :=
 ⟨he,λθ Α w s=>(h (hφ θ Α w s)).calls θ Α w s⟩
end tri
end Go.V
namespace Go.Proofs.YtlgpgjdggilkgaaGreatDoor
section
open Go.V
inductive M0 (d:Int) (c:D4):Χ->Prop
 | zero:M0 d c (I2 d c)
 | post {S:Χ} {s:C8}:M0 d c S->(E2 S s).1=0->M0 d c (bP S s)
 | view {S:Χ} (v:OA×List E8) (w:OA×List JX):M0 d c S->M0 d c (S.view v w)
theorem iv{S:Χ}{s:C8}(h:(E2 S s).1=0):ge S.ζ S.now s:=by
 grind [E2]
def O1.at{s:E8}(h:O1 s)(F:Int):O1 (s.at F):=⟨⟨h.inp.kd,h.inp.len,h.inp.Ip,h.inp.Ζ,h.inp.cap,h.inp.bd⟩,h.cap,h.form,h.C0⟩
theorem xc{α:Type}(f:α->HP)(l:List α):Ρ f l=Ρ (λx:HP=>x) (l.map f):=by
 grind [Ρ,Kg]
theorem A.l0{α:Type}{f:α->HP}{l l' : List α}(h:∀y∈l',∃x∈l,f y=f x){L:LH}:A (Ρ f l::L) (Ρ f l'::L):=by
 rw[xc f l,xc f l'];refine A.g9 (f:=λx:HP=>x) λx K=>?_;grind
structure O2 (s:E8):Prop where
 inp:MZ s
 cap:s.cM.length<=s.fH
 k:C2 s.m.cM<=4
def sq:∀T:List A9,T.length<=C2 T
 | []=>au _
 | m::T=>by
  have:=sq T
  show T.length+1<=(m.Ζ.length+1)+C2 T;omega
def O2.len{s:E8}(h:O2 s):s.cM.length<=4:=by
 have J:=sq s.m.cM;have U:=h.k;have h3:s.m.cM.length=s.cM.length:=ah _;omega
def O1.sp{s:E8}(h:O1 s):O2 s:=⟨h.inp,h.cap,by have:=h.k;omega⟩
structure Sa (T ms' : List G0):Prop where
 TQ:∀y∈ms',∃x∈T,y.pad=x.pad/\y.m.Ζ=x.m.Ζ/\y.F6=x.F6
theorem Sa.υ{T r : List G0}(h:Sa T r){L:LH}:A (Ρ G2 T::L) (Ρ G2 r::L) :=
 A.l0 λy Z=>by
  obtain⟨x,K,e1,e2,_⟩:=h.TQ y Z;grind
def Sb(ss r : List E8):Prop:=r = ss\/∃k s',k<ss.length/\O2 s'/\r = ss.set k s'
theorem Sb.len{ss r : List E8}(h:Sb ss r):r.length=ss.length:=by
 rcases h with rfl|⟨k,s',_,_,rfl⟩
 .rfl
 grind
def O2.at{s:E8}(h:O2 s)(F:Int):O2 { s with F:=F }:=⟨⟨h.inp.kd,h.inp.len,h.inp.Ip,h.inp.Ζ,h.inp.cap,h.inp.bd⟩,h.cap,h.k⟩
attribute [local irreducible] Δ R GP Ο h2 GF GE O Ef A8 A CB GB V.Enters
end
section
open Go.V
def A.l7{Μ cq:HP}{L:LH}:A (Μ::cq::L) (bW [Μ,cq]::L):=λθ Α w s=>Sat.a8 (Μ:=[Μ,cq]) s
def NT(f:JX):HP:=bW [Υ aI 3 G1 f.pad f.F6 f.m.Ζ,Υ (a0 .i64) 1 kR f.cU f.fH f.m.made]
def O3(s:E8):HP:=bW [Υ bJ 5 JD s.cU s.fH s.cM,Ρ G2 s.cM]
def Ka:JX:=⟨⟨0,0,0,0,0,0,0,0,0,[],[]⟩,none,0,none,0⟩
def Sc:E8:=⟨0,0,0,0,0,0,[],none,0⟩
def Fl{f:JX}{L:LH}:A (Kw f::L) (ε aI 3 f.pad f.m.Ζ::ε (a0 .i64) 1 f.cU f.m.made::Kw f::L):=(A.dup (ud f).Mx).trans A.OM
attribute [local irreducible] Δ R GP Ο h2 O Ef A8 A CB GB V.Enters
abbrev Bh:List Im:=[.ev 0,.ev 1,.ev 3,.ev 4,.ef 2,.ev 6,.ef 5,.ef 7,.ev 8,.ef 9]
def JW{φ ψ:Prop}(k:ψ)(h:Hid ψ->φ:=by intro k;(repeat (first|refine aa ?_|intro sh|refine Δ.dr 12 1 Bh ?_));(repeat revert sh);exact Hid.out k):φ:=h ⟨k⟩
def wT{L:LH}(f:JX)(J:f.m.Ζ.length<=1000000)(U:f.m.made.length<=1000000) :
  Λ Ε 53 #[bh (ee f)] (Kw f::L) (λv Y=>∃f',v=bh (ee f')/\f'.m=f.m/\Y = NT f'::Kw f::L):=by
 obtain⟨⟨i1,i2,i3,i4,i5,i6,i7,i8,i9,Ζ,made⟩,pad,F6,cU,fH⟩:=f;dsimp only at J U;refine Λ.bd (args:=[bh (ee ⟨⟨i1,i2,i3,i4,i5,i6,i7,i8,i9,Ζ,made⟩,pad,F6,cU,fH⟩)]) ?_;refine Δ.υ Fl ?_;dsimp only;refine JW ?_;intros;refine Ο.ca (gV pad Ζ.length F6 Ζ rfl J) ?_;rintro _ _⟨a2,r,rfl,rfl⟩;refine JW ?_;intros;refine Ο.ca (tU cU made.length fH made rfl U) ?_;rintro _ _⟨a3,I,rfl,rfl⟩;refine JW ?_;intros;refine KX.a8 (by exact B6.cell rfl aS (B6.nil)) ?_ ⟨⟨⟨i1,i2,i3,i4,i5,i6,i7,i8,i9,Ζ,made⟩,a2,r,a3,I⟩,rfl,rfl,rfl⟩;refine A.trans (cq:=Υ aI 3 G1 a2 r Ζ::Υ (a0 .i64) 1 kR a3 I made::Kw ⟨⟨i1,i2,i3,i4,i5,i6,i7,i8,i9,Ζ,made⟩,pad,F6,cU,fH⟩::L) ag ?_;exact A.l7
end
section
open Go.V
attribute [local irreducible] Δ R GP Ο h2 GF GE O Ef A8 A CB GB V.Enters
def Qw(m:G0):Prop:=m.m.Ζ.length<=m.F6
def Rg(s:E8):Prop:=s.cM.length<=s.fH/\∀m∈s.cM,Qw m
def wR{L:LH}(m:G0)(hl:m.m.Ζ.length<=1000000) :
  Λ Ε 192 #[bh (bJ m)] (G2 m::L) (λv Y=>∃m',v=bh (bJ m')/\(m'.m=m.m/\Qw m')/\Y = G2 m'::G2 m::L):=by
 obtain⟨⟨Ψ,to,aT,n,Ζ⟩,pad,F6⟩:=m;dsimp only at hl;refine Λ.bd (args:=[bh (bJ ⟨⟨Ψ,to,aT,n,Ζ⟩,pad,F6⟩)]) ?_;refine Ih ?_;intros;refine R.ca (gV pad Ζ.length F6 Ζ rfl B) ?_;rintro _ _⟨I,r,rfl,rfl⟩;refine R.g9 (ke (M:=I) (cap:=r) (D:=Ζ) (Β:=aI) (sz:=3) (Τ:=G1)) ?_;rintro⟨hc,_⟩;refine Ih ?_;intros;refine KX.a8 (by exact B6.cell rfl aS (B6.nil)) ?_ ⟨⟨⟨Ψ,to,aT,n,Ζ⟩,I,r⟩,rfl,⟨rfl,hc⟩,rfl⟩;refine(A.My I).trans ?_;exact ag
def wH{L:LH}(M:OA)(c:Nat)(T:List G0)(hl:T.length<=64)(hp:∀m∈T,m.m.Ζ.length<=1000000) :
  Λ Ε 191 #[ae M T.length c,.func (.func 192) #[] #[]] (ε bJ 5 M T::Ρ G2 T::L) (λv Y=>∃a4 c' r,v=ae a4 r.length c'/\(r.map (·.m)=T.map (·.m)/\r.length<=c'/\∀m∈r,Qw m)/\Y = Υ bJ 5 JD a4 c' r::Ρ G2 r::ε bJ 5 M T::Ρ G2 T::L):=by
 refine Λ.bd ?_;by_cases h0:T.length=0
 .have e:T=[]:=bG h0;subst e;refine Ih ?_;intros;exact KX.a8 aw ((A.a8 G2).trans (A.c8 bJ 5 JD)) ⟨none,0,[],rfl,⟨rfl,au _,(λm h=>by cases h)⟩,rfl⟩
 refine Ih ?_;intros;refine R.ef (Ef.g8 bJ Qq rfl rfl rfl B B B B) ac ?_;rintro _ _⟨bs,rfl,rfl⟩;rw[show(T.length:Int).toNat=T.length by omega];refine Ih ?_;intros
 refine Δ.loop (α:=Nat×List G0) (λz=>z.1<=T.length/\z.2.length=T.length/\((z.2.take z.1).map (·.m)=(T.take z.1).map (·.m)/\∀m∈z.2.take z.1,Qw m)) (λ  z=>[(1,.func (.func 192) #[] #[]),(5,ae (some ⟨bs,0,none⟩) T.length T.length),(14,ae M T.length c),(15,E (T.length:Int)),(16,E (z.1:Int))])
  (λz=>Υ bJ 5 JD (some ⟨bs,0,none⟩) T.length z.2::Ρ G2 (z.2.take z.1)::ε bJ 5 M T::Ρ G2 T::L) (λz=>T.length - z.1) (0,List.replicate T.length Qq) ⟨aC _,by simp,by simp,(λm h=>by rw[aU] at h;cases h)⟩ aA ?_ ?_
 .dsimp only;rw[aU];refine(A.a8 G2).trans ?_;exact ag
 rintro⟨i,zs⟩ ⟨hi,a7,a2,I⟩;dsimp only at hi a7 a2 I ⊢;by_cases a3:i<T.length
 case neg =>
  have a9:i=T.length:=B;subst a9;rw[aG B,aG B] at a2;rw[aG B] at I;rw[aG (B:zs.length<=T.length)];refine Ih ?_;intros;refine KX.a8 aw (A.refl _) ⟨some ⟨bs,0,none⟩,T.length,zs,by rw[a7];rfl,⟨a2,B,I⟩,rfl⟩
 have a5:(i:Int).toNat=i:=B;have a6:T[i]!∈T:=bA a3;refine Ih ?_;intros;rw[a5];refine R.υ (A.at (Μ:=Ρ G2 T) (A.d8 (x:=T[i]!) a6)) ?_;refine R.ef (Ef.d7 rfl rfl (wR T[i]! (hp _ a6))) ac ?_;rintro _ _⟨m',rfl,⟨b0,b1⟩,rfl⟩;refine Ih ?_;intros;refine R.I1 (Ef.g9 (e:=m') rfl rfl aS aS (jY _) B) ?_;rintro _ _ rfl;rw[a5];refine Ih ?_;intros;refine⟨(i+1,zs.set i m'),⟨by dsimp only;omega,by dsimp only;simp;omega,?_,?_⟩,by dsimp only;omega,?_,?_⟩
 .dsimp only;rw[eh B,av a3,aL,aL,a2,<-C5 a3];simp[b0]
 .dsimp only;rw[eh B];intro m hm;rcases It hm with q|q
  .exact I m q
  .rw[D6 q];exact b1
 .dsimp only;rw[bC i];exact aA
 .dsimp only;rw[eh B];refine A.c7 ?_;refine A.trans (cq:=Ρ G2 (zs.take i)::G2 m'::ε bJ 5 M T::Ρ G2 T::L) ag ?_;exact(A.c7 (A.d7 iN)).trans (A.c9 iN)
def wP{L:LH}(s:E8)(hl:s.cM.length<=64)(hp:∀m∈s.cM,m.m.Ζ.length<=1000000) :
  Λ Ε 133 #[bh (da s)] (stM s::IK s::L) (λv Y=>∃s',v=bh (da s')/\(s'.m=s.m/\Rg s')/\Y = O3 s'::stM s::IK s::L):=by
 obtain⟨i0,i1,i2,i3,i4,i5,T,cU,fH⟩:=s;dsimp only at hl hp;refine Λ.bd (args:=[bh (da ⟨i0,i1,i2,i3,i4,i5,T,cU,fH⟩)]) ?_;refine Ih ?_;intros;refine R.υ (A.at (Μ:=ε bJ 5 cU T) (A.c7 (A.at (Μ:=Ρ G2 T) (A.refl _)))) ?_;refine R.ca (wH cU fH T hl hp) ?_;rintro _ _⟨a3,c',a2,rfl,⟨a4,r,I⟩,rfl⟩;refine Ih ?_;intros;refine KX.a8 (by exact B6.cell rfl aS (B6.nil)) ?_ ⟨⟨i0,i1,i2,i3,i4,i5,a2,a3,c'⟩,rfl,⟨by simp only[E8.m,a4],r,I⟩,rfl⟩;refine A.trans (cq:=Υ bJ 5 JD a3 c' a2::Ρ G2 a2::ε bJ 5 cU T::Ρ G2 T::L) ag ?_;exact A.l7
end
section
open Go.V
def Kt(x y:gq):Int:=max 0 (y.2.1 - x.2.1)
def LX(x y:gq):Int:=min (x.2.2 - Kt x y) (y.2.1+y.2.2 - (x.2.1+Kt x y))
def M1(x y:gq):gq:=(x.1,x.2.1+Kt x y+LX x y,x.2.2 - Kt x y - LX x y)
def LY:LL->gq->List (gq×Bool)
 | [],x=>if 0<x.2.2 then[(x,false)] else[]
 | y::ys,x =>
  if 0<x.2.2/\y.1=x.1/\y.2.1<x.2.1+x.2.2 then
   (if 0<Kt x y then[((x.1,x.2.1,Kt x y),false)] else[])++(((x.1,x.2.1+Kt x y,LX x y),true)::LY ys (M1 x y))
  else if 0<x.2.2 then[(x,false)] else[]
def Jg(x y:gq):Prop:=x.1<y.1\/(y.1=x.1/\x.2.1<y.2.1+y.2.2)
instance (x y:gq):Decidable (Jg x y):=by unfold Jg;infer_instance
def L9(x:gq):LL->LL
 | []=>[]
 | y::ys=>if Jg x y then y::ys else L9 x ys
def J1(set:LL)(x:gq):List (gq×Bool):=LY (L9 x set) x
theorem uF(x:gq):∀{set:LL} {i:Nat},i<=set.length->(∀p,p<i->¬Jg x set[p]!)->(i<set.length->Jg x set[i]!)->set.drop i=L9 x set
 | [],i,_,_,_=>by rw[List.drop_nil];rfl
 | y::ys,0,_,_,h=>by
  grind [L9]
 | y::ys,i+1,hi,J,U=>by
  have h0:¬Jg x y:=J 0 (Nat.succ_pos _);show ys.drop i=if Jg x y then y::ys else L9 x ys;rw[Ω h0];refine uF x (by simpa using hi) (λp hp=>J (p+1) B) (λq=>U (by simpa using q))
theorem rZ(x:gq):∀set:LL,∃l,set=l++L9 x set/\∀y∈l,¬Jg x y
 | []=>⟨[],rfl,λ_ h=>by cases h⟩
 | y::ys=>by
  by_cases h:Jg x y
  .exact⟨[],by grind [L9],λ_ h=>by cases h⟩
  .obtain⟨l,J,U⟩:=rZ x ys;grind [L9]
def nk(x:gq):∀{set:LL},set.Pairwise sl->(∀y∈set,π y)->∀y∈L9 x set,Jg x y
 | [],_,_,_,h=>by cases h
 | y::ys,hs,ho,z,hz=>by
  rw[List.pairwise_cons] at hs;change z∈(if Jg x y then y::ys else L9 x ys) at hz;by_cases h:Jg x y
  .rw[μ h] at hz;rcases Jr hz with rfl|hz
   .exact h
   .have J:=hs.1 z hz;have U:=ho z (aB _ hz);unfold Jg at h ⊢;unfold sl at J;unfold π at U;omega
  .rw[Ω h] at hz;exact nk x hs.2 (λw hw=>ho w (aB _ hw)) z hz
theorem vx{ys:LL}{x:gq}(h:¬0<x.2.2):LY ys x=[]:=by
 cases ys with
 | nil=>exact Ω h
 | cons y ys=>exact(Ω (λq=>h q.1)).trans (Ω h)
def im(l:List (gq×Bool)):LL:=(l.filter (λq=>!q.2)).map Prod.fst
def KK(l:List (gq×Bool)):LL:=(l.filter (λq=>q.2)).map Prod.fst
theorem CP(a b:List (gq×Bool)):im (a++b)=im a++im b:=by grind [im]
theorem EM(a b:List (gq×Bool)):KK (a++b)=KK a++KK b:=by grind [KK]
def zv{x y:gq}{ys:LL}(h:0<x.2.2/\y.1=x.1/\y.2.1<x.2.1+x.2.2):LY (y::ys) x=(if 0<Kt x y then[((x.1,x.2.1,Kt x y),false)] else[])++(((x.1,x.2.1+Kt x y,LX x y),true)::LY ys (M1 x y)):=μ h
theorem qp{x y:gq}{ys:LL}(h0:0<x.2.2)(h:¬(y.1=x.1/\y.2.1<x.2.1+x.2.2)):LY (y::ys) x=[(x,false)]:=(Ω (λq=>h q.2)).trans (μ h0)
theorem Hn:∀{ys:LL} {x:gq},π x->(∀y∈ys,π y)->ys.Pairwise sl->(∀y∈ys,Jg x y)->(KK (LY ys x)≠[]↔∃y∈ys,¬apart y x)
 | [],x,K,_,_,_=>by
  unfold π at K;rw[show LY [] x=[(x,false)] from μ B];exact⟨λh=>iW rfl h,ay⟩
 | y::ys,x,K,ho,hs,hp=>by
  unfold π at K;rw[List.pairwise_cons] at hs;have Z:=ho y ay;unfold π at Z;have r:=hp y ay;unfold Jg at r;by_cases c:y.1=x.1/\y.2.1<x.2.1+x.2.2
  .grind [az,apart,KK,LY]
  .rw[qp B c];refine⟨λh=>iW rfl h,λ⟨w,hw,hn⟩=>iW ?_ hn⟩;grind [apart,sl]
structure Nx (z:LL):Prop where
 ok:∀y∈z,π y
 sl:z.Pairwise sl
theorem Ho{set:LL}(h:Nx set){x:gq}(K:π x):KK (J1 set x)≠[]↔∃y∈set,¬apart y x:=by
 obtain⟨l,J,U⟩:=rZ x set;have hk:=nk x h.sl h.ok;have I:∀y∈L9 x set,π y:=λy Z=>h.ok y ay
 have r:(L9 x set).Pairwise sl:=by
  have:=h.sl
  rw[J] at this;exact ay
 grind [J1,Hn,Jg,apart]
theorem CN:∀{ys:LL} {x:gq},H8 x->(∀y∈ys,π y)->(∀y∈ys,Jg x y)->ys.Pairwise sl->(∀q∈LY ys x,π q.1)/\(LY ys x).length<=2*ys.length+1
 | [],x,K,_,_,_=>by
  grind [H8,LY,π]
 | y::ys,x,K,ho,hp,hs=>by
  rw[List.pairwise_cons] at hs;have Z:=ho y ay;unfold π at Z;have I:=hp y ay;unfold Jg at I;have r:∀w∈ys,π w:=ay;have a2:=K;unfold H8 at a2;by_cases h:0<x.2.2
  .by_cases c:y.1=x.1/\y.2.1<x.2.1+x.2.2
   .rw[zv ⟨h,c⟩];have hw:H8 (M1 x y):=by unfold H8 M1 LX Kt;dsimp only;omega
    obtain⟨i1,i2⟩:=CN (ys:=ys) hw r (by grind [sl,π,Jg,M1,LX]) hs.2;grind [π,Kt,LX]
   grind [qp,π]
  grind [vx]
theorem CO{set:LL}(h:Nx set){x:gq}(K:π x):(∀q∈J1 set x,π q.1)/\(J1 set x).length<=2*set.length+1:=by
 obtain⟨l,J,U⟩:=rZ x set;have hk:=nk x h.sl h.ok;have I:∀y∈L9 x set,π y:=λy Z=>h.ok y ay
 have r:(L9 x set).Pairwise sl:=by
  have:=h.sl
  rw[J] at this;exact ay
 obtain⟨i1,i2⟩:=CN K.w I hk r;grind [J1]
def KS(s:LL)(x:gq):LL :=
 if s.length≠0/\s[s.length - 1]!.1=x.1/\x.2.1<=s[s.length - 1]!.2.1+s[s.length - 1]!.2.2 then
  s.set (s.length - 1) (s[s.length - 1]!.1,s[s.length - 1]!.2.1,max s[s.length - 1]!.2.2 (x.2.1+x.2.2 - s[s.length - 1]!.2.1))
 else s++[x]
def Ju(ys:LL):LL:=ys.foldl KS []
theorem El{Θ:LL}{l x:gq}(h:l.1=x.1/\x.2.1<=l.2.1+l.2.2):KS (Θ++[l]) x=Θ++[(l.1,l.2.1,max l.2.2 (x.2.1+x.2.2 - l.2.1))]:=by
 grind [KS]
theorem FR{Θ:LL}{l x:gq}(h:¬(l.1=x.1/\x.2.1<=l.2.1+l.2.2)):KS (Θ++[l]) x=Θ++[l]++[x]:=by
 grind [KS]
theorem ki(a b:LL):dU (a++b)=dU a+dU b:=by
 induction a with
 | nil=>rw[ak,jz];omega
 | cons x a ih=>grind [fR]
structure ZI (s P:LL):Prop where
 ok:∀y∈s,π y
 sl:s.Pairwise sl
 len:s.length<=P.length
 nil:s=[]->P=[]
 top:∀Θ l,s=Θ++[l]->(∀y∈P,y.1<l.1\/(y.1=l.1/\y.2.1+y.2.2<=l.2.1+l.2.2))/\(∃y∈P,y.1=l.1/\y.2.1=l.2.1)/\∃y∈P,y.1=l.1/\y.2.1+y.2.2=l.2.1+l.2.2
 le:dU s<=dU P
 eq:dU s=dU P->Iu P/\∀t,π t->OV s t=OV P t
 ap:Iu P->dU s=dU P
theorem qn{Θ r' : LL}{l l' : gq}(h:Θ++[l]=r'++[l']):Θ=r'/\l=l':=by
 grind [List.append_inj']
theorem P5{P:LL}{x:gq}:Iu (P++[x])↔Iu P/\∀y∈P,apart y x:=by
 constructor
 .intro h;obtain⟨J,_,h3⟩:=List.pairwise_append.1 h;exact⟨J,λy Z=>ay⟩
 .rintro⟨J,U⟩;exact List.pairwise_append.2 ⟨J,ec _ _,λy Z w hw=>by rw[D6 hw];exact U y Z⟩
theorem ZI.step{s P:LL}(h:ZI s P)(hP:∀y∈P,π y){x:gq}(K:π x)(ho:∀y∈P,y.1<x.1\/(y.1=x.1/\y.2.1<=x.2.1)):ZI (KS s x) (P++[x]):=by
 have a7:=K;unfold π at a7;rcases List.eq_nil_or_concat s with rfl|⟨Θ,l,rfl⟩
 .have hp:=h.nil rfl;subst hp;have e:KS [] x=[x]:=by unfold KS;rw[Ω ay];rfl
  rw[e,ak];refine⟨ay,ay,au _,ay,λΘ l q=>?_,co _,λ_=>⟨ec _ _,λ_ _=>rfl⟩,λ_=>rfl⟩;grind [qn]
 rw[List.concat_eq_append] at h ⊢;obtain⟨t1,⟨a,ha,a9,b0⟩,⟨b,hb,b1,b2⟩⟩:=h.top Θ l rfl;have b3:=ho a ha;have hl:=h.ok l ay;unfold π at hl;have b5:=List.pairwise_append.1 h.sl;have b4:∀y∈Θ,Go.Proofs.YtlgpgjdggilkgaaGreatDoor.sl y l:=ay;have I:=h.len;have a6:=h.le;rw[aq,bu] at I;rw[ki,fu] at a6;have r:dU (P++[x])=dU P+x.2.2:=by rw[ki,fu]
 have a2:∀t,OV (P++[x]) t=OV P t+ov x t:=λt=>by rw[fw,iu]
 by_cases c:l.1=x.1/\x.2.1<=l.2.1+l.2.2
 .rw[El c];obtain⟨N,hN⟩:∃N,N=max l.2.2 (x.2.1+x.2.2 - l.2.1):=⟨_,rfl⟩;rw[<-hN];have hs:dU (Θ++[((l.1,l.2.1,N):gq)])=dU Θ+N:=by rw[ki,fu]
  have he:=h.eq;have a4:=h.ap;rw[ki,fu] at he a4;refine⟨λy Z=>?_,?_,ay,(λq=>by simp at q),λr2 l2 q=>?_,B,λq=>?_,λq=>?_⟩
  .rcases It Z with Z|Z
   .exact h.ok y ay
   grind [π]
  .grind [Go.Proofs.YtlgpgjdggilkgaaGreatDoor.sl]
  .grind [qn]
  .rw[hs,r] at q;obtain⟨e1,e2⟩:=he B;have a5:x.2.1=l.2.1+l.2.2:=B;have a3:N=l.2.2+x.2.2:=B;refine⟨P5.2 ⟨e1,λy Z=>?_⟩,λt ht=>?_⟩
   .grind [apart]
   .have e3:=e2 t ht;rw[fw,iu] at e3;unfold π at ht
    have e4:ov (l.1,l.2.1,N) t=ov l t+ov x t:=by
     rw[a3,pE,vC t l.1 l.2.1 l.2.2 x.2.2 B B B,pE l t,pE x t,<-a5,c.1];have k1:((x.1,l.2.1,l.2.2):gq)=l:=ay;rw[k1]
    rw[fw,iu,a2,e4];omega
  grind [P5,apart]
 .rw[FR c];have hs:dU (Θ++[l]++[x])=dU (Θ++[l])+x.2.2:=by rw[ki,fu]
  refine⟨λy Z=>?_,?_,ay,(λq=>by simp at q),λr2 l2 q=>?_,by rw[hs,r,ki,fu];omega,λq=>?_,λq=>?_⟩
  .rcases It Z with Z|Z
   .exact h.ok y Z
   grind
  .grind [Go.Proofs.YtlgpgjdggilkgaaGreatDoor.sl]
  .grind [qn]
  .rw[hs,r] at q;obtain⟨e1,e2⟩:=h.eq B;refine⟨P5.2 ⟨e1,λy Z=>?_⟩,λt ht=>?_⟩
   .grind [apart]
   .rw[fw,iu,a2,e2 t ht]
  .rw[hs,r,h.ap (P5.1 q).1]
theorem ui:∀(F8:LL) {s P:LL},ZI s P->(∀y∈P++F8,π y)->(P++F8).Pairwise (λa b=>¬LW b a<0)->ZI (F8.foldl KS s) (P++F8)
 | [],s,P,h,_,_=>ay
 | x::F8,s,P,h,hl,hs=>by
  have e:P++x::F8=(P++[x])++F8:=by simp
  have hP:∀y∈P,π y:=λy Z=>hl y (dQ _ Z);have K:=hl x (dx _ az)
  have J:ZI (KS s x) (P++[x]):=h.step hP K λy Z=>by
   have:=(List.pairwise_append.1 hs).2.2 y Z x az
   rw[oO] at this;unfold L8 at this;omega
  rw[e] at hl hs ⊢;exact ui F8 J hl hs
theorem uh{ps ys:LL}(h:gc LW ps ys)(hl:∀x∈ps,π x):Nx (Ju ys)/\(Ju ys).length<=ps.length/\(dU (Ju ys)=dU ps↔Iu ps)/\(Iu ps->∀t,π t->OV (Ju ys) t=OV ps t):=by
 have Z:∀x∈ys,π x:=λx K=>hl x (h.1.mem_iff.1 K);have h0:ZI [] []:=⟨ay,.nil,au _,(λ_=>rfl),(λΘ l q=>by simp at q),co _,λ_=>⟨.nil,λ_ _=>rfl⟩,λ_=>rfl⟩;have z:ZI (Ju ys) ys:=ui ys h0 Z h.2;have pa:Iu ps↔Iu ys:=(h.1.pairwise_iff (λ {a b} q=>by unfold apart at *;omega)).symm;have r:dU ys=dU ps:=Dc h.1;refine⟨⟨z.ok,z.sl⟩,by rw[<-h.1.length_eq];exact z.len,?_,λq t ht=>?_⟩
 .rw[<-r,pa];exact⟨λq=>(z.eq q).1,z.ap⟩
 .rw[(z.eq (z.ap (pa.1 q))).2 t ht];exact Hb h.1 t
end
end Go.Proofs.YtlgpgjdggilkgaaGreatDoor
namespace Go.V
def rR(M:OA):Prop:=∃a,M=some a
def O.c7{P:Program}{L:LH}{env:Env}{ty:TypeId}{x:Operand}{M:OA}{sz j o:Nat}(K:χ env x=some (.pointer (Ks M sz j o)))(h:rR M):O P L env (.nilCheck x) ty (.pointer (Ks M sz j o)):=by
 obtain⟨g,rfl⟩:=h;exact O.nilCheck (a:=Addr.add g (j*sz+o)) K
def nB{α:Type}{Β:α->LV}{sz Τ:Nat}{M:OA}{cap:Nat}{D:List α}{L R' : LH}[h:MO L M α Β sz Τ cap D R'](h0:0<D.length):∀θ Α w,Sat θ (L++Α) w->rR M:=λθ Α w s=>by
 have s1:Sat θ (Υ Β sz Τ M cap D::(R'++Α)) w:=s.perm (h.perm.append_right Α);obtain⟨_,J,_,U⟩:=s1.Lw;rcases U with⟨_,h3⟩|⟨g,r,h3,_⟩
 .omega
 .exact⟨_,h3⟩
