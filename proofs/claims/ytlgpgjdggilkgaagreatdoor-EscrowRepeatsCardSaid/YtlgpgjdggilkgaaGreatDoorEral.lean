/- Lemmas. -/
import Derived.Test.YtlgpgjdggilkgaaGreatDoorErak
import Derived.ArgAppend
set_option linter.all false
set_option maxHeartbeats 1000000
namespace Go.Proofs.YtlgpgjdggilkgaaGreatDoor
section
open Go.V
attribute [local irreducible] Δ R GP Ο h2 O Ef A8 A CB GB Enters
structure A9 where
 Ψ:Int
 to:Int
 aT:Int
 n:Int
 Ζ:LL
 deriving Inhabited,DecidableEq
structure G0 where
 m:A9
 pad:OA
 F6:Nat
 deriving Inhabited
def bJ(m:G0):LV:=[E m.m.Ψ,E m.m.to,E m.m.aT,E m.m.n,ae m.pad m.m.Ζ.length m.F6]
def jY(t:G0):∀u∈bJ t,u.oneCell' = true:=by simp[bJ,Value.oneCell']
instance:Mf bJ:=⟨jY⟩
abbrev G2(m:G0):HP:=ε aI 3 m.pad m.m.Ζ
def iN(m:G0):JJ (G2 m):=cA _ _ _ _
abbrev JD:Nat:=134
def Qq:G0:=⟨⟨0,0,0,0,[]⟩,none,0⟩
def wQ{L:LH}(m:G0)(hl:m.m.Ζ.length<=1000000) :
  Λ Ε 192 #[bh (bJ m)] (G2 m::L) (λv Y=>∃m',v=bh (bJ m')/\m'.m=m.m/\Y = G2 m'::G2 m::L):=by
 obtain⟨⟨Ψ,to,aT,n,Ζ⟩,pad,F6⟩:=m;dsimp only at hl;refine Λ.bd (args:=[bh (bJ ⟨⟨Ψ,to,aT,n,Ζ⟩,pad,F6⟩)]) ?_;refine Ih ?_;intros;refine R.ca (gV pad Ζ.length F6 Ζ rfl B) ?_;rintro _ _⟨I,r,rfl,rfl⟩;refine Ih ?_;intros;refine KX.a8 (by exact B6.cell rfl aS (B6.nil)) ?_ ⟨⟨⟨Ψ,to,aT,n,Ζ⟩,I,r⟩,rfl,rfl,rfl⟩;refine(A.My I).trans ?_;exact ag
theorem eh{α:Type}[Inhabited α]{l:List α}{i:Nat}{x:α}(h:i<l.length):(l.set i x).take (i+1)=l.take i++[x]:=by
 grind [av,List.take_set_of_le]
theorem wG{L:LH}(M:OA)(c:Nat)(T:List G0)(hl:T.length<=64)(hp:∀m∈T,m.m.Ζ.length<=1000000) :
  Λ Ε 191 #[ae M T.length c,.func (.func 192) #[] #[]] (ε bJ 5 M T::Ρ G2 T::L) (λv Y=>∃a2 c' r,v=ae a2 r.length c'/\r.map (·.m)=T.map (·.m)/\Y = ε bJ 5 a2 r::Ρ G2 r::ε bJ 5 M T::Ρ G2 T::L):=by
 refine Λ.bd ?_;by_cases h0:T.length=0
 .have e:T=[]:=ay;subst e;refine Ih ?_;intros;exact KX.a8 aw ((A.a8 G2).trans (A.f5 bJ 5 none)) ⟨none,0,[],rfl,rfl,rfl⟩
 refine Ih ?_;intros;refine R.ef (Ef.g8 bJ Qq rfl rfl rfl B B B B) ac ?_;rintro _ _⟨bs,rfl,rfl⟩;rw[show(T.length:Int).toNat=T.length by omega];refine Ih ?_;intros
 refine Δ.loop (α:=Nat×List G0) (λz=>z.1<=T.length/\z.2.length=T.length/\(z.2.take z.1).map (·.m)=(T.take z.1).map (·.m)) (λz=>[(1,.func (.func 192) #[] #[]),(5,ae (some ⟨bs,0,none⟩) T.length T.length),(14,ae M T.length c),(15,E (T.length:Int)),(16,E (z.1:Int))])
  (λz=>Υ bJ 5 JD (some ⟨bs,0,none⟩) T.length z.2::Ρ G2 (z.2.take z.1)::ε bJ 5 M T::Ρ G2 T::L) (λz=>T.length - z.1) (0,List.replicate T.length Qq) ay aA ?_ ?_
 .dsimp only;rw[aU];refine(A.a8 G2).trans ?_;exact ag
 rintro⟨i,zs⟩ ⟨hi,a5,I⟩;dsimp only at hi a5 I ⊢;by_cases a7:i<T.length
 case neg =>
  have a6:i=T.length:=B;subst a6;rw[aG B,aG B] at I;rw[aG B];refine Ih ?_;intros;refine KX.a8 aw (A.JC) ⟨some ⟨bs,0,none⟩,T.length,zs,by rw[a5];rfl,I,rfl⟩
 have a3:(i:Int).toNat=i:=B;have a4:T[i]!∈T:=bA a7;refine Ih ?_;intros;rw[a3];refine R.υ (A.at (Μ:=Ρ G2 T) (A.d8 (x:=T[i]!) a4)) ?_;refine R.ef (Ef.d7 rfl rfl (wQ T[i]! (hp _ a4))) ac ?_;rintro _ _⟨m',rfl,a9,rfl⟩;refine Ih ?_;intros;refine R.I1 (Ef.g9 (e:=m') rfl rfl aS aS (jY _) B) ?_;rintro _ _ rfl;rw[a3];refine Ih ?_;intros;refine⟨(i+1,zs.set i m'),⟨B,ay,?_⟩,B,?_,?_⟩
 .grind [eh,av]
 .dsimp only;rw[bC i];exact aA
 .dsimp only;rw[eh B];refine A.c7 ?_;refine A.trans (cq:=Ρ G2 (zs.take i)::G2 m'::ε bJ 5 M T::Ρ G2 T::L) ag ?_;exact(A.c7 (A.d7 iN)).trans (A.c9 iN)
structure C8 where
 F:Int
 Κ:Int
 MB:Int
 G:Int
 Ip:Int
 J4:Int
 cM:List A9
 deriving Inhabited
structure E8 where
 F:Int
 Κ:Int
 MB:Int
 G:Int
 Ip:Int
 J4:Int
 cM:List G0
 cU:OA
 fH:Nat
 deriving Inhabited
def E8.m(s:E8):C8:=⟨s.F,s.Κ,s.MB,s.G,s.Ip,s.J4,s.cM.map (·.m)⟩
def da(s:E8):LV:=[E s.F,E s.Κ,E s.MB,E s.G,E s.Ip,E s.J4,ae s.cU s.cM.length s.fH]
def lr(t:E8):∀u∈da t,u.oneCell' = true:=by simp[da,Value.oneCell']
instance:Mf da:=⟨lr⟩
abbrev stM(s:E8):HP:=ε bJ 5 s.cU s.cM
abbrev IK(s:E8):HP:=Ρ G2 s.cM
def Ap(s:E8):JJ (stM s):=cA _ _ _ _
def wO{L:LH}(s:E8)(hl:s.cM.length<=64)(hp:∀m∈s.cM,m.m.Ζ.length<=1000000) :
  Λ Ε 133 #[bh (da s)] (stM s::IK s::L) (λv Y=>∃s',v=bh (da s')/\s'.m=s.m/\Y = stM s'::IK s'::stM s::IK s::L):=by
 obtain⟨i0,i1,i2,i3,i4,i5,T,cU,fH⟩:=s;dsimp only at hl hp;refine Λ.bd (args:=[bh (da ⟨i0,i1,i2,i3,i4,i5,T,cU,fH⟩)]) ?_;refine Ih ?_;intros;refine R.υ (A.at (Μ:=ε bJ 5 cU T) (A.c7 (A.at (Μ:=Ρ G2 T) (A.refl _)))) ?_;refine R.ca (wG cU fH T hl hp) ?_;rintro _ _⟨r,c',a2,rfl,I,rfl⟩;refine Ih ?_;intros;refine KX.a8 (by exact B6.cell rfl aS (B6.nil)) ?_ ⟨⟨i0,i1,i2,i3,i4,i5,a2,r,c'⟩,rfl,by simp only[E8.m,I],rfl⟩;exact ag
structure Mi where
 name:ByteArray
 obj:Bool
 mixed:Bool
 PV:Bool
 OR:Int
 bind:Int
 level:Int
 deriving Inhabited
def de(i:Mi):LV:=[.string i.name,.bool i.obj,.bool i.mixed,.bool i.PV,E i.OR,E i.bind,E i.level]
def rL(t:Mi):∀u∈de t,u.oneCell' = true:=by simp[de,Value.oneCell']
instance:Mf de:=⟨rL⟩
def tT{L:LH}(M:OA)(n c:Nat)(D:List Mi)[C7 L M Mi de 7 D](hn:n=D.length)(hb:n<=1000000) :
  Λ Ε 159 #[ae M n c] L (λv Y=>∃I r,v=ae I D.length r/\Y = Υ de 7 214 I r D::L):=by
 refine Λ.bd ?_;repeat' first|refine aa ?_|intro _|with_reducible refine CB.dec (λ_=>?_) (λ_=>?_)|with_reducible refine GB.dec (λ_=>?_) (λ_=>?_)|with_reducible refine CB.bool (λ_=>?_) (λ_=>?_)|with_reducible refine GB.bool (λ_=>?_) (λ_=>?_)
 .have h:M=none:=by assumption
  subst h;refine KX.f9 (.inl rfl) (mT (L:=L) (D:=D)) ?_;intro K;subst K;refine KX.a8 aw (A.c8 de 7 214) ⟨_,_,rfl,rfl⟩
 .refine R.υ (A.d9 (Β:=de) (sz:=7) (D:=[]) rfl rfl bR bR) ?_;refine R.ef (Ef.c9 rfl rfl rfl rfl hn (λe _=>rL e) gg gg) ac ?_;rintro _ _⟨I,r,rfl,rfl⟩;refine Ih ?_;intros;refine KX.a8 aw (A.refl _) ⟨I,r,rfl,rfl⟩
structure Pj where
 name:ByteArray
 spawn:Bool
 level:Int
 time:Int
 TG:Int
 TH:Int
 take:List (Int×Int)
 QV:List (Int×Int)
 back:List (Int×Int)
 deriving Inhabited
def Ca{L:LH}(M:OA)(c:Nat):Λ Ε 160 #[ae M 0 c,.func (.func 161) #[] #[]] L (C9 (ae none 0 0) L):=by
 refine Λ.bd ?_;refine Ih ?_;intros;exact KX.en ⟨rfl,rfl⟩
def BZ{L:LH}(M:OA)(c:Nat):Λ Ε 162 #[ae M 0 c,.func (.func 163) #[] #[]] L (C9 (ae none 0 0) L):=by
 refine Λ.bd ?_;refine Ih ?_;intros;exact KX.en ⟨rfl,rfl⟩
def BY{L:LH}(M:OA)(c:Nat):Λ Ε 164 #[ae M 0 c,.func (.func 165) #[] #[]] L (C9 (ae none 0 0) L):=by
 refine Λ.bd ?_;refine Ih ?_;intros;exact KX.en ⟨rfl,rfl⟩
structure D4 where
 B5:List Mi
 rules:List Pj
structure Iq where
 B5:List Mi
 F3:OA
 G3:Nat
 JK:OA
 JL:Nat
 MP:OA
 MQ:Nat
 Ng:OA
 Nh:Nat
def Iq.m(c:Iq):D4:=⟨c.B5,[]⟩
def Iq.cells(c:Iq):LV:=[ae c.F3 c.B5.length c.G3,ae c.JK 0 c.JL,ae c.MP 0 c.MQ,ae c.Ng 0 c.Nh]
def JU(c:Iq):HP:=ε de 7 c.F3 c.B5
def HE(c:Iq):JJ (JU c):=cA _ _ _ _
def QW{c:Iq}{L:LH}:A (JU c::L) (ε de 7 c.F3 c.B5::JU c::L):=A.dup (HE c).Mx
structure Iq.cq (c:Iq):Prop where
 B5:c.B5.length<=64
def Iq.a8{c c' : Iq}(h:c'.m=c.m)(hB:c.cq):c'.cq:=⟨by rw[show c'.B5=c.B5 from congrArg D4.B5 h];exact hB.B5⟩
abbrev AM:List Im:=[.ev 0,.ev 1,.ev 3,.ev 4,.ev 6,.ev 7,.ev 9,.ev 10,.ef 2,.ef 5,.ef 8,.ef 11,.ev 12,.ef 13]
def Ir{φ ψ:Prop}(k:ψ)(h:Hid ψ->φ:=by intro k;(repeat (first|refine aa ?_|intro sh|refine Δ.dr 16 1 AM ?_));(repeat revert sh);exact Hid.out k):φ:=h ⟨k⟩
def od{L:LH}(c:Iq)(hb:c.cq) :
  Λ Ε 108 #[bh c.cells] (JU c::L) (λv Y=>∃c',v=.agg c'.cells.toArray/\c'.m=c.m/\Y = JU c'::JU c::L):=by
 obtain⟨B5,F3,G3,JK,JL,MP,MQ,Ng,Nh⟩:=c;have a2:=hb.B5;dsimp only at a2;refine Λ.bd (args:=[bh (Iq.cells ⟨B5,F3,G3,JK,JL,MP,MQ,Ng,Nh⟩)]) ?_;refine Δ.υ QW ?_;dsimp only;refine Ir ?_;intros;refine Ο.ca (tT F3 B5.length G3 B5 rfl B) ?_;rintro _ _⟨r,I,rfl,rfl⟩;refine Ir ?_;intros;refine Ο.cr (Ca JK JL) ?_;refine Ir ?_;intros;refine Ο.cr (BZ MP MQ) ?_;refine Ir ?_;intros;refine Ο.cr (BY Ng Nh) ?_;refine Ir ?_;intros;refine KX.a8 (by exact B6.cell rfl aS (B6.nil)) ?_ ⟨⟨B5,r,I,none,0,none,0,none,0⟩,rfl,rfl,rfl⟩;refine(A.My r).trans ?_;refine A.trans (cq:=ε de 7 r B5::JU ⟨B5,F3,G3,JK,JL,MP,MQ,Ng,Nh⟩::L) ag ?_;exact A.refl _
end
end Go.Proofs.YtlgpgjdggilkgaaGreatDoor
namespace Go.V
section
def QX{α:Type}(Β:α->LV)(sz Τ:Nat)(M:OA)(cap:Nat)(D:List α)(q:List α×OA×Nat):LH:=[dp ((cap=0\/M=Jk q.2.1 q.2.2 sz q.1.length)/\q.1.length+cap=q.2.2),Υ Β sz Τ q.2.1 q.2.2 (q.1++D)]
def G4{α:Type}(Β:α->LV)(sz Τ:Nat)(M:OA)(cap:Nat)(D:List α):HP:=hex λq=>bW (QX Β sz Τ M cap D q)
section
variable {α:Type}{θ:Th}{Β:α->LV}{sz Τ:Nat}{M:OA}{cap:Nat}{D:List α}{L:LH}{w:World}
def RR(M:OA)(cap sz:Nat):Jk M cap sz 0=M:=by
 unfold Jk;split
 .rfl
 .cases M with
  | none=>rfl
  | some a =>
   simp only[dM,Nat.zero_mul];congr 1
def xf(a:Addr)(m n:Nat):(a.add m).add n=a.add (m+n):=by
 unfold Addr.add;(repeat' split)<;>first|rfl|omega|(simp;omega)|(simp_all;done)
def Fx{j k:Nat}(h:j+k<cap):Jk (Jk M cap sz j) (cap - j) sz k=Jk M cap sz (j+k):=by
 unfold Jk;rw[Ω (B:¬cap=j),Ω B,Ω B,Option.map_map];congr 1;funext a;simp only[Function.comp_apply];rw[xf,dl]
def Sat.Pk(s:Sat θ (G4 Β sz Τ M cap D::L) w):∃(p:List α) (Kv:OA) (JV:Nat),((cap=0\/M=Jk Kv JV sz p.length)/\p.length+cap=JV)/\Sat θ (Υ Β sz Τ Kv JV (p++D)::L) w:=by
 obtain⟨⟨p,Kv,JV⟩,s1⟩:=Sat.NK s;have s2:Sat θ (dp ((cap=0\/M=Jk Kv JV sz p.length)/\p.length+cap=JV)::Υ Β sz Τ Kv JV (p++D)::L) w:=Sat.KY (Μ:=QX Β sz Τ M cap D (p,Kv,JV)) s1;exact⟨p,Kv,JV,s2.Nq,s2.tail⟩
def Sat.f8{p:List α}{Kv:OA}{JV:Nat}(h:(cap=0\/M=Jk Kv JV sz p.length)/\p.length+cap=JV)(s:Sat θ (Υ Β sz Τ Kv JV (p++D)::L) w):Sat θ (G4 Β sz Τ M cap D::L) w :=
 Sat.c9 (p,Kv,JV) (Sat.a8 (Μ:=QX Β sz Τ M cap D (p,Kv,JV)) (Sat.Ox s h))
def A.j7:A (Υ Β sz Τ M cap D::L) (G4 Β sz Τ M cap D::L):=λθ Α w s=>Sat.f8 (L:=L++Α) (p:=[]) ⟨.inr (RR M cap sz).symm,cW _⟩ s
def A.l8(Β:α->LV)(sz Τ:Nat):A L (G4 Β sz Τ none 0 []::L):=(A.c8 Β sz Τ).trans A.j7
def Sat.PW(s:Sat θ (G4 Β sz Τ M cap D::L) w):D.length<=cap:=by
 obtain⟨p,Kv,JV,h,s1⟩:=s.Pk;have:=s1.Lw.2.1
 rw[aq] at this;omega
def A.m8{k:Nat}(hk:k<=D.length):A (G4 Β sz Τ M cap D::L) (G4 Β sz Τ (Jk M cap sz k) (cap - k) (D.drop k)::L):=λθ Α w s=>by
 have hl:=Sat.PW (L:=L++Α) s;obtain⟨p,Kv,JV,⟨J,U⟩,s1⟩:=Sat.Pk (L:=L++Α) s;refine Sat.f8 (L:=L++Α) (p:=p++D.take k) (Kv:=Kv) (JV:=JV) ⟨?_,?_⟩ ?_
 .by_cases hc:cap - k=0
  .exact .inl hc
  .rw[J.resolve_left B,aq,aK,cX hk,show cap=JV - p.length by omega];exact .inr (Fx B)
 .rw[aq,aK,cX hk];omega
 .rw[ax,cz];exact s1
def Sat.PX(s:Sat θ (G4 Β sz Τ M cap D::L) w):MN w Β sz M D:=by
 obtain⟨p,Kv,JV,⟨J,U⟩,s1⟩:=s.Pk;have h3:=s1.Lw.2.1;have h4:=(Sat.g9 s1).drop h3 p.length;rw[List.drop_left] at h4;rcases J with J|J
 .rw[aq] at h3;exact⟨h4.1,.inl (bG B)⟩
 .rw[J];exact h4
end
instance {α:Type}(L:LH)(Β:α->LV)(sz Τ:Nat)(M:OA)(cap:Nat)(D:List α):C7 (G4 Β sz Τ M cap D::L) M α Β sz D:=⟨λ_ _ _ s=>Sat.PX s⟩
class Pm (L:LH) (M:OA) (α:outParam Type) (Β:outParam (α->LV)) (sz Τ:outParam Nat) (cap:outParam Nat) (D:outParam (List α)) (Α:outParam (LH)):Prop where
 perm:L.Perm (G4 Β sz Τ M cap D::Α)
instance {α:Type}(L:LH)(Β:α->LV)(sz Τ:Nat)(M:OA)(cap:Nat)(D:List α):Pm (G4 Β sz Τ M cap D::L) M α Β sz Τ cap D L:=⟨List.Perm.refl _⟩
instance {α:Type}(Μ:HP)(L:LH)(Β:α->LV)(sz Τ:Nat)(M:OA)(cap:Nat)(D:List α)(Α:LH)[h:Pm L M α Β sz Τ cap D Α]:Pm (Μ::L) M α Β sz Τ cap D (Μ::Α):=⟨(h.perm.cons Μ).trans (List.Perm.swap _ _ _)⟩
def oA{P:Program}(w:World)(t ty e:TypeId)(i:TypeInfo)(ht:P.underlying t=some (.slice e))(hi:P.info? e=some i)
  (g off I a2:Nat) (a3:Array Value) (hg:w.heap[g]? = some (.cells a3 e (0,0)))
  (a:Addr) (m c:Nat) (r:LV) (hl:r.length=m*i.size) (a4:∀j u,r[j]? = some u->w.cell? (a.add j)=some u) (J:∀u∈r,u.oneCell' = true)
  (a5:I+m<=a2) (a6:off+I*i.size+r.length<=a3.size) :
  (Builtin.append_ #[t,t] ty #[.slice (some ⟨g,off,none⟩) I a2,.slice (some a) m c]).run P w =
   .ok (.slice (some ⟨g,off,none⟩) (I+m) a2) (w.setRow g (a3.toList.take (off+I*i.size)++r++a3.toList.drop (off+I*i.size+r.length)).toArray):=by
 have hf:=run_firstCells_some (P:=P) w i.size m a m c r hl a4;have a7:=run_storeCells_at P g (off+I*i.size) e r 0 a3 w hg (by simpa using a6) J;simp only[dW] at a7;simp[Builtin.append_,run_underlying ht,sizeOf,typeInfo,hi,Builtin.lenOf,a5,hf,Addr.add_lit,a7]
section ops
variable {P:Program}{N:Nat}{env:Env}{L:LH}{ty:TypeId}
def Ef.l0{t:TypeId}{x y:Operand}{α:Type}{Β:α->LV}{M b4:OA}{n c n2 c2 sz Τ bb cap:Nat}{D ys:List α}{z:LV}{R1:LH}[ht:IJ P t Τ sz bb z][hp:Pm L M α Β sz Τ cap D R1][hq:C7 R1 b4 α Β sz ys]
  (K:χ env x=some (.slice M n c)) (Z:χ env y=some (.slice b4 n2 c2)) (hn:n=D.length) (hc:c=cap) (d0:n2=ys.length) (J:∀e∈ys,∀u∈Β e,u.oneCell' = true) (hb:(D.length+ys.length)*bb<=140737488355328) (hm:D.length+ys.length<=9223372036854775807)
  : Ef P L env (.call { callee:=.builtin .append,args:=#[x,y],argTypes:=#[t,t] }) ty (λv Y=>∃a3 r,v=.slice a3 (D++ys).length r/\((a3 = M/\r = cap/\Y = G4 Β sz Τ M cap (D++ys)::R1)\/Y = G4 Β sz Τ a3 r (D++ys)::G4 Β sz Τ M cap D::R1)) :=
 Ef.val (λθ Α a w ea s d5 pos af g=>by
  subst hn hc d0;have s1:Sat θ (G4 Β sz Τ M c D::(R1++Α)) w:=s.perm (hp.perm.append_right Α);have a7:=s1.PW;have hrd:=s1.PX;obtain⟨g1,g2⟩:=hq.rd θ Α w s1.tail;obtain⟨ii,z0,i1,i2,i3,i4,i5⟩:=ht.Ζ
  have b7 : ∀u∈ys.flatMap Β,u.oneCell' = true:=λu hu=>by
   obtain⟨e,he,hu⟩:=List.mem_flatMap.1 hu;exact J e he u hu
  by_cases b6:ys=[]
  .subst b6;refine⟨.slice M D.length c,w,_,?_,⟨M,c,by simp,.inl ⟨rfl,rfl,rfl⟩⟩,by simpa using s1⟩;cases b4 with
   | none =>
    simp[execOp,resolve,invoke,builtin,aH ea K,aH ea Z,Builtin.append_,run_underlying ht.under,sizeOf,typeInfo,i1,Builtin.lenOf,a7,Builtin.firstCells];cases M<;>simp[storeCells]
   | some a2 =>
    have hf:=run_firstCells_some (P:=P) w ii.size 0 a2 0 c2 [] bR bR;simp[execOp,resolve,invoke,builtin,aH ea K,aH ea Z,Builtin.append_,run_underlying ht.under,sizeOf,typeInfo,i1,Builtin.lenOf,a7,hf];cases M<;>simp[storeCells]
  have e3:0<ys.length:=List.length_pos_iff.2 b6
  obtain⟨a2,rfl,g3⟩:∃a2,b4=some a2/\∀i v,(ys.flatMap Β)[i]? = some v->w.cell? (a2.add i)=some v:=by
   rcases g2 with g2|g2
   .exact iW g2 b6
   .exact g2
  have b3:(ys.flatMap Β).length=ys.length*ii.size:=by rw[i4];exact cF g1
  obtain⟨p,Kv,JV,⟨q1,q2⟩,s2⟩:=s1.Pk;obtain⟨o1,o2,o3,o4⟩:=s2.Lw;rw[aq] at o2
  have a6:∀x∈D++ys,(Β x).length=sz:=λx K=>by
   rcases It K with K|K
   .exact o1 x (dx _ K)
   .exact g1 x K
  have a9:¬D.length+ys.length<=c->∃v' ab,(Builtin.append_ #[t,t] ty #[.slice M D.length c,.slice (some a2) ys.length c2]).run P w=.ok v' ab/\∃a3 r,v' = .slice a3 (D++ys).length r/\Sat θ (Υ Β sz Τ a3 r (D++ys)::(G4 Β sz Τ M c D::(R1++Α))) ab:=λI=>by
   have d3:(D.flatMap Β).length=D.length*sz:=cF λx K=>o1 x (dx _ K);cases a5:M with
   | none =>
    have d2:D=[]:=by
     rcases hrd.2 with h|⟨b,U,_⟩
     .exact h
     .rw[a5] at U;cases U
    have b9:c=0:=by
     refine Classical.byContradiction λhc=>?_;have h9:=q1.resolve_left hc;rw[a5] at h9;rcases o4 with⟨_,h⟩|⟨gb,a4,rfl,_⟩
     .omega
     .unfold Jk at h9;split at h9<;>cases h9
    subst d2 b9;have s3:Sat θ (Υ Β sz Τ none 0 ([]:List α)::(G4 Β sz Τ none 0 []::(R1++Α))) w:=Sat.d9 Β sz Τ (by rw[a5] at s1;exact s1);obtain⟨v',ab,hr,U,h3,_,h5⟩:=run_append_own_at (P:=P) w 0 t ty Τ ii z0 sz bb ht.under i1 i2 i4 i5 (by rw[<-ht.N5,<-i3];simp) ht.pos _ _ _ (qr s3) a2 ys.length c2 (ys.flatMap Β) (cF g1) g3 b7 (by simp only[maxLen];simp at hm ⊢;omega) (by simpa using hb) (aC _);obtain⟨a3,r,rfl,s4⟩:=oE (ys:=ys) s3 g1 U h3 (kK _ hr) h5;exact⟨_,ab,hr,a3,r,rfl,s4⟩
   | some b =>
    have Φ:∀j u,(D.flatMap Β)[j]? = some u->w.cell? (b.add j)=some u:=by
     rcases hrd.2 with h|⟨b',U,h3⟩
     .rw[h];simp
     .rw[a5] at U;cases U;exact h3
    obtain⟨v',ab,b1,ho,hg⟩:=run_append_arg_grows (P:=P) (w:=w) t ty Τ ii z0 sz bb ht.under i1 i2 i4 i5 (by rw[<-ht.N5,<-i3];simp) ht.pos b D.length c (D.flatMap Β) d3 Φ a2 ys.length c2 (ys.flatMap Β) (cF g1) g3 B (by simp only[maxLen];omega) hb;obtain⟨c6,ho⟩:=ho;rcases ho with⟨_,hn⟩|⟨g',r,b5,rfl,c4,c5,d6,c0,c1,b2⟩
    .omega
    have c3:=kK _ b1;have ok:θ.ok ab:=⟨by rw[hg.tape];exact s.1.tape,by rw[hg.os];exact s.1.os,by rw[hg.output];exact s.1.output,aQ s.1.drawn c3⟩;have b8:(D++ys).length=D.length+ys.length:=by simp
    have d4:Sat θ (G4 Β sz Τ (some b) c D::(R1++Α)) w:=by rw[a5] at s1;exact s1
    have s3:Sat θ (h1 g' (.cells b5 Τ (0,0))::(G4 Β sz Τ (some b) c D::(R1++Α))) ab:=d4.fresh ok c4 c5 (λk x hk=>by rw[hg.block k (Array.getElem?_eq_some_iff.1 hk).1 bR];exact hk);have s4:=Sat.Mu (cap:=r) s3 a6 B c0 c1 (by rw[b8,b2];simp);exact⟨_,ab,b1,some ⟨g',0,none⟩,r,by rw[b8],s4⟩
  by_cases I:D.length+ys.length<=c
  case neg =>
   obtain⟨v',ab,hr,a3,r,rfl,s4⟩:=a9 I;refine⟨_,ab,_,?_,⟨a3,r,rfl,.inr rfl⟩,A.j7 (L:=G4 Β sz Τ M c D::R1) θ Α ab s4⟩;simp[execOp,resolve,invoke,builtin,aH ea K,aH ea Z,hr]
  rcases o4 with⟨rfl,rfl⟩|⟨gb,a4,rfl,f1,f2,f3⟩
  .omega
  have d1:¬JV=p.length:=B
  have a5:M=some ⟨gb,p.length*sz,none⟩:=by
   rw[q1.resolve_left B];unfold Jk;rw[Ω d1];simp[Addr.add_lit]
  subst a5;have e2:(p.length+D.length+ys.length)*sz<=JV*sz:=bK _ B;have e0:p.length*sz+D.length*sz+ys.length*sz=(p.length+D.length+ys.length)*sz:=by rw[dl,dl]
  have hr:=oA (P:=P) (ty:=ty) w t Τ ii ht.under i1 gb (p.length*sz) D.length c a4 f3.IN a2 ys.length c2 (ys.flatMap Β) b3 g3 b7 I (by rw[i4,cF g1,f1];omega);have b0:(p.length*sz+D.length*sz)=(p++D).length*sz:=by rw[aq,dl]
  have s5:Sat θ (Υ Β sz Τ (some ⟨gb,0,none⟩) JV (p++(D++ys))::(R1++Α)) (w.setRow gb (a4.toList.take (p.length*sz+D.length*ii.size)++ys.flatMap Β++a4.toList.drop (p.length*sz+D.length*ii.size+(ys.flatMap Β).length)).toArray):=by
   refine Sat.Mu (L:=R1++Α) (Sat.update f3 ⟨s.1.tape,s.1.os,s.1.output,s.1.drawn⟩ (setRow_heap w gb _ _ Τ _ f3.IN) (λk x hk K=>by rw[setRow_other w gb k _ hk];exact K)) (λx K=>?_) ?_ o3 ?_ ?_
   .rcases It K with K|K
    .exact o1 x (dQ _ K)
    .exact a6 x K
   .rw[aq,aq];omega
   .rw[i4];simp only[fW,aq,aK,ck,dF,f1,cF g1];omega
   .rw[i4,b0];simp only[];rw[<-ax p D ys,cZ,<-f2]
    have e1:((p++D++ys).length*sz)=(a4.toList.take ((p++D).length*sz)++ys.flatMap Β).length:=by
     simp only[aq,aK,dF,f1,cF g1,dl];omega
    rw[e1,List.take_left]
  generalize (w.setRow gb (a4.toList.take (p.length*sz+D.length*ii.size)++ys.flatMap Β++a4.toList.drop (p.length*sz+D.length*ii.size+(ys.flatMap Β).length)).toArray)=W at hr s5;refine⟨.slice (some ⟨gb,p.length*sz,none⟩) (D.length+ys.length) c,W,_,?_,⟨some ⟨gb,p.length*sz,none⟩,c,by rw[aq],.inl ⟨rfl,rfl,rfl⟩⟩,Sat.f8 (L:=R1++Α) (p:=p) (Kv:=some ⟨gb,0,none⟩) (JV:=JV) ⟨q1,q2⟩ s5⟩;simp[execOp,resolve,invoke,builtin,aH ea K,aH ea Z,hr])
def Ef.j7{t:TypeId}{x y:Operand}{α:Type}{Β:α->LV}{M a2:OA}{n c n2 c2 sz Τ bb cap:Nat}{D ys:List α}{z:LV}{R1:LH}[ht:IJ P t Τ sz bb z][hp:Pm L M α Β sz Τ cap D R1][hq:C7 R1 a2 α Β sz ys]
  (K:χ env x=some (.slice M n c)) (Z:χ env y=some (.slice a2 n2 c2)) (hn:n=D.length) (hc:c=cap) (a3:n2=ys.length) (J:∀e∈ys,∀u∈Β e,u.oneCell' = true) (hb:(D.length+ys.length)*bb<=140737488355328) (hm:D.length+ys.length<=9223372036854775807)
  : Ef P L env (.call { callee:=.builtin .append,args:=#[x,y],argTypes:=#[t,t] }) ty (λv Y=>∃I r,v=.slice I (D++ys).length r/\Y = G4 Β sz Τ I r (D++ys)::R1):=by
 intro θ Α a w o next F8 ha s e1 e2 a4
 refine Ef.l0 (P:=P) (ty:=ty) (hp:=hp) (hq:=hq) K Z hn hc a3 J hb hm θ Α a w o next F8 ha s e1 e2 (λv Y ab ⟨I,r,q1,q2⟩ s'=>a4 v _ ab ⟨I,r,q1,rfl⟩ ?_)
 rcases q2 with⟨rfl,rfl,rfl⟩|rfl
 .exact s'
 .exact(s'.perm (List.Perm.swap _ _ _)).tail
end ops
end
section
def OS{α:Type}(Β:α->LV)(sz Τ:Nat)(M:OA)(cap:Nat)(D:List α)(v:OA×List α)(q:Nat):LH:=match q with
 | 0=>[dp (v.1=M/\v.2 <+: D),G4 Β sz Τ M cap D]
 | 1=>[G4 Β sz Τ M cap D,ε Β sz v.1 v.2]
 | _=>[dp ((cap=D.length/\D.length<=maxLen)/\v.1=M/\v.2=D),ε Β sz M D]
def JF{α:Type}(Β:α->LV)(sz Τ:Nat)(M:OA)(cap:Nat)(D:List α)(v:OA×List α):HP:=hex λq=>bW (OS Β sz Τ M cap D v q)
class Pn (L:LH) (M:OA) (α:outParam Type) (Β:outParam (α->LV)) (sz Τ:outParam Nat) (cap:outParam Nat) (D:outParam (List α)) (v:outParam (OA×List α)) (Α:outParam (LH)):Prop where
 perm:L.Perm (JF Β sz Τ M cap D v::Α)
instance {α:Type}(L:LH)(Β:α->LV)(sz Τ:Nat)(M:OA)(cap:Nat)(D:List α)(v:OA×List α):Pn (JF Β sz Τ M cap D v::L) M α Β sz Τ cap D v L:=⟨List.Perm.refl _⟩
instance {α:Type}(Μ:HP)(L:LH)(Β:α->LV)(sz Τ:Nat)(M:OA)(cap:Nat)(D:List α)(v:OA×List α)(Α:LH)[h:Pn L M α Β sz Τ cap D v Α]:Pn (Μ::L) M α Β sz Τ cap D v (Μ::Α):=⟨(h.perm.cons Μ).trans (List.Perm.swap _ _ _)⟩
section
variable {α:Type}{θ:Th}{Β:α->LV}{sz Τ:Nat}{M:OA}{cap:Nat}{D:List α}{v:OA×List α}{L:LH}{w:World}
def Sat.PY(s:Sat θ (JF Β sz Τ M cap D v::L) w):((v.1=M/\v.2 <+: D)/\Sat θ (G4 Β sz Τ M cap D::L) w)\/Sat θ (G4 Β sz Τ M cap D::ε Β sz v.1 v.2::L) w\/(((cap=D.length/\D.length<=maxLen)/\v.1=M/\v.2=D)/\Sat θ (ε Β sz M D::L) w):=by
 obtain⟨q,s1⟩:=Sat.NK s;match q,s1 with
 | 0,s1 =>
  have s2:Sat θ (dp (v.1=M/\v.2 <+: D)::G4 Β sz Τ M cap D::L) w:=Sat.KY (Μ:=OS Β sz Τ M cap D v 0) s1;exact .inl ⟨s2.Nq,s2.tail⟩
 | 1,s1=>exact .inr (.inl (Sat.KY (Μ:=OS Β sz Τ M cap D v 1) s1))
 | q+2,s1 =>
  have s2:Sat θ (dp ((cap=D.length/\D.length<=maxLen)/\v.1=M/\v.2=D)::ε Β sz M D::L) w:=Sat.KY (Μ:=OS Β sz Τ M cap D v (q+2)) s1;exact .inr (.inr ⟨s2.Nq,s2.tail⟩)
def Sat.f9(h:v.1=M/\v.2 <+: D)(s:Sat θ (G4 Β sz Τ M cap D::L) w):Sat θ (JF Β sz Τ M cap D v::L) w:=Sat.c9 0 (Sat.a8 (Μ:=OS Β sz Τ M cap D v 0) (Sat.Ox s h))
def Sat.d8(s:Sat θ (G4 Β sz Τ M cap D::ε Β sz v.1 v.2::L) w):Sat θ (JF Β sz Τ M cap D v::L) w:=Sat.c9 1 (Sat.a8 (Μ:=OS Β sz Τ M cap D v 1) s)
def Sat.j5(h:(cap=D.length/\D.length<=maxLen)/\v.1=M/\v.2=D)(s:Sat θ (ε Β sz M D::L) w):Sat θ (JF Β sz Τ M cap D v::L) w:=Sat.c9 2 (Sat.a8 (Μ:=OS Β sz Τ M cap D v 2) (Sat.Ox s h))
def A.RU:A (Υ Β sz Τ M cap D::L) (JF Β sz Τ M cap D (none,[])::L):=λθ Α w s =>
 Sat.d8 (L:=L++Α) (v:=(none,[])) ((A.f5 Β sz none θ Α w (A.j7 θ Α w s)).perm (List.Perm.swap _ _ _))
def A.n9(hm:D.length<=maxLen):A (ε Β sz M D::L) (JF Β sz Τ M D.length D (M,D)::L):=λθ Α w s=>Sat.j5 (L:=L++Α) ⟨⟨rfl,hm⟩,rfl,rfl⟩ s
def Sat.f5{r : OA}{ys:List α}(h:∀ι k,ε Β sz M D ι k->ε Β sz r ys ι k)(s:Sat θ (ε Β sz M D::L) w):Sat θ (ε Β sz r ys::L) w:=by
 obtain⟨ok,ι,h0,a,b1,c,F9,D7,C3,d1,d2,d3,d4,e,d6⟩:=s;exact⟨ok,ι,h0,a,b1,c,F9,D7,C3,d1,d2,d3,d4,h _ _ e,d6⟩
def GD{ys:List α}(hp:ys <+: D){ι k:Hp}(h:ε Β sz M D ι k):ε Β sz M ys ι k:=by
 obtain⟨t,rfl⟩:=hp;obtain⟨J,U⟩:=h;refine⟨λx K=>J x (dQ _ K),?_⟩;rcases U with U|⟨g,off,r,bU,fz,e1,e2,e3⟩
 .exact .inl (List.append_eq_nil_iff.1 U).1
 .refine .inr ⟨g,off,r,bU,fz,e1,e2,λi u hu=>e3 i u ?_⟩;rw[cZ,List.getElem?_append_left (List.getElem?_eq_some_iff.1 hu).1];exact hu
def A.l6:A (G4 Β sz Τ M cap D::L) (ε Β sz M D::L):=λθ Α w s=>by
 obtain⟨p,Kv,JV,⟨J,U⟩,s1⟩:=Sat.Pk (L:=L++Α) s;have h3:=s1.Lw.2.1;rw[aq] at h3;refine Sat.f5 (L:=L++Α) (λι k h=>?_) (Sat.JC s1);obtain⟨e1,e2⟩:=h;refine⟨λx K=>e1 x (dx _ K),?_⟩;by_cases K:D=[]
 .exact .inl K
 have hl:=List.length_pos_iff.2 K;rcases e2 with e2|⟨g,off,r,bU,fz,rfl,f2,f3⟩
 .exact iW (List.append_eq_nil_iff.1 e2).2 K
 refine .inr ⟨g,off+p.length*sz,r,bU,fz,?_,f2,λi u hu=>?_⟩
 .rw[J.resolve_left B];unfold Jk;rw[Ω B,dM,gG]
 .rw[df];refine f3 _ u ?_;have hp:(p.flatMap Β).length=p.length*sz:=cF λx K=>e1 x (dQ _ K);rw[cZ,List.getElem?_append_right B,hp,Nat.add_sub_cancel_left];exact hu
def Sat.j7(s:Sat θ (JF Β sz Τ M cap D v::L) w):MN w Β sz M D:=by
 rcases s.PY with⟨_,s⟩|s|⟨_,s⟩
 .exact s.PX
 .exact s.PX
 .exact s.PN
def Sat.j0(s:Sat θ (JF Β sz Τ M cap D v::L) w):MN w Β sz v.1 v.2:=by
 rcases s.PY with⟨⟨J,U⟩,s⟩|s|⟨⟨_,J,U⟩,s⟩
 .have h:=s.PX.take v.2.length;rw[<-List.prefix_iff_eq_take.1 U,<-J] at h;exact h
 .exact s.tail.PN
 .rw[J,U];exact s.PN
def zk(s:Sat θ (G4 Β sz Τ M cap D::L) w):cap<=maxLen:=by
 obtain⟨p,Kv,JV,⟨J,U⟩,s1⟩:=s.Pk;have:=s1.Lw.2.2.1
 omega
def sH{R' : LH}[h:Pn L M α Β sz Τ cap D v R']:∀θ Α w,Sat θ (L++Α) w->D.length<=cap/\cap<=9223372036854775807:=λθ Α w s=>by
 have hm:maxLen=9223372036854775807:=rfl;rcases (s.perm (h.perm.append_right Α)).PY with⟨_,s⟩|s|⟨⟨⟨e1,e2⟩,_⟩,s⟩
 .have:=s.PW
  have:=zk s
  omega
 .have:=s.PW
  have:=zk s
  omega
 .omega
def A.m5:A (JF Β sz Τ M cap D v::L) (JF Β sz Τ M cap D (M,D)::L):=λθ Α w s=>by
 rcases Sat.PY (L:=L++Α) s with⟨_,s⟩|s|⟨⟨h,_⟩,s⟩
 .exact Sat.f9 (L:=L++Α) ⟨rfl,List.prefix_refl _⟩ s
 .exact Sat.f9 (L:=L++Α) ⟨rfl,List.prefix_refl _⟩ ((s.perm (List.Perm.swap _ _ _)).tail)
 .exact Sat.j5 (L:=L++Α) ⟨h,rfl,rfl⟩ s
end
instance {α:Type}(L:LH)(Β:α->LV)(sz Τ:Nat)(M:OA)(cap:Nat)(D:List α)(v:OA×List α):C7 (JF Β sz Τ M cap D v::L) M α Β sz D:=⟨λ_ _ _ s=>Sat.j7 s⟩
section ops
variable {P:Program}{N:Nat}{env:Env}{L:LH}{ty:TypeId}
def Ef.l8{t:TypeId}{x y:Operand}{α:Type}{Β:α->LV}{b:Addr}{a7:OA}{n c n2 c2 sz Τ bb:Nat}{D ys:List α}{z:LV}[ht:IJ P t Τ sz bb z][hr:C7 L (some b) α Β sz D][hq:C7 L a7 α Β sz ys]
  (K:χ env x=some (.slice (some b) n c)) (Z:χ env y=some (.slice a7 n2 c2)) (hn:n=D.length) (hc:c=D.length) (b7:n2=ys.length) (h0:0<ys.length) (hb:(D.length+ys.length)*bb<=140737488355328) (hm:D.length+ys.length<=9223372036854775807)
  : Ef P L env (.call { callee:=.builtin .append,args:=#[x,y],argTypes:=#[t,t] }) ty (λv Y=>∃a6 r,v=.slice a6 (D++ys).length r/\Y = Υ Β sz Τ a6 r (D++ys)::L) :=
 Ef.val (λθ Α a w ea s b8 pos af g=>by
  subst hn hc b7;obtain⟨f1,f2⟩:=hr.rd θ Α w s;obtain⟨g1,g2⟩:=hq.rd θ Α w s;obtain⟨ii,z0,i1,i2,i3,i4,i5⟩:=ht.Ζ;rcases g2 with g2|⟨a2,rfl,g3⟩
  .subst g2;simp at h0
  have Φ:∀j u,(D.flatMap Β)[j]? = some u->w.cell? (b.add j)=some u:=by
   rcases f2 with f2|⟨I,e1,f3⟩
   .subst f2;simp
   .cases e1;exact f3
  obtain⟨v',ab,a3,ho,hg⟩:=run_append_arg_grows (P:=P) (w:=w) t ty Τ ii z0 sz bb ht.under i1 i2 i4 i5 (by rw[<-ht.N5,<-i3];simp) ht.pos b D.length D.length (D.flatMap Β) (cF f1) Φ a2 ys.length c2 (ys.flatMap Β) (cF g1) g3 B (by simp only[maxLen];omega) hb;obtain⟨b6,ho⟩:=ho;rcases ho with⟨_,hn⟩|⟨g',r,b0,rfl,b4,b5,b9,b1,b2,a4⟩
  .omega
  have b3:=kK _ a3;have ok:θ.ok ab:=⟨by rw[hg.tape];exact s.1.tape,by rw[hg.os];exact s.1.os,by rw[hg.output];exact s.1.output,aQ s.1.drawn b3⟩
  have a5:∀x∈D++ys,(Β x).length=sz:=λx K=>by
   rcases It K with K|K
   .exact f1 x K
   .exact g1 x K
  have a9:(D++ys).length=D.length+ys.length:=by simp
  have s2:Sat θ (h1 g' (.cells b0 Τ (0,0))::(L++Α)) ab:=s.fresh ok b4 b5 (λk x hk=>by rw[hg.block k (Array.getElem?_eq_some_iff.1 hk).1 bR];exact hk);have s3:=Sat.Mu (cap:=r) s2 a5 B b1 b2 (by rw[a9,a4];simp);refine⟨_,ab,_,?_,⟨some ⟨g',0,none⟩,r,by rw[a9],rfl⟩,s3⟩;simp[execOp,resolve,invoke,builtin,aH ea K,aH ea Z,a3])
def Ef.l5{t:TypeId}{x y:Operand}{α:Type}{Β:α->LV}{M a4:OA}{n c n2 c2 sz Τ bb cap:Nat}{D ys:List α}{v:OA×List α}{z:LV}{R1:LH}[ht:IJ P t Τ sz bb z][hp:Pn L M α Β sz Τ cap D v R1][hq:C7 R1 a4 α Β sz ys]
  (K:χ env x=some (.slice M n c)) (Z:χ env y=some (.slice a4 n2 c2)) (hn:n=D.length) (hc:c=cap) (a5:n2=ys.length) (h0:0<ys.length) (J:∀e∈ys,∀u∈Β e,u.oneCell' = true) (hb:(D.length+ys.length)*bb<=140737488355328) (hm:D.length+ys.length<=9223372036854775807)
  : Ef P L env (.call { callee:=.builtin .append,args:=#[x,y],argTypes:=#[t,t] }) ty (λΘ Y=>∃I r,Θ=.slice I (D++ys).length r/\Y = JF Β sz Τ I r (D++ys) v::R1):=by
 intro θ Α a w o next F8 ha s e1 e2 a6
 have s1:Sat θ (JF Β sz Τ M cap D v::(R1++Α)) w:=s.perm (hp.perm.append_right Α);-- an owned one, beside what is left of Qh state
 have h1:∀{M:OA} {cap n c:Nat},χ env x=some (.slice M n c)->n=D.length->c=cap->∀S:LH,Sat θ (G4 Β sz Τ M cap D::(S++(R1++Α))) w ->
   (∀ab I r,(I = M->Sat θ (G4 Β sz Τ I r (D++ys)::(S++(R1++Α))) ab->Sat θ (JF Β sz Τ I r (D++ys) v::(R1++Α)) ab)/\(Sat θ (G4 Β sz Τ I r (D++ys)::G4 Β sz Τ M cap D::(S++(R1++Α))) ab->Sat θ (JF Β sz Τ I r (D++ys) v::(R1++Α)) ab))->Oper.wp P o a w next F8:=λK hn hc S s2 h =>
  Ef.l0 (L:=G4 Β sz Τ _ _ D::R1) (R1:=R1) (P:=P) (ty:=ty) (t:=t) K Z hn hc a5 J hb hm θ (S++Α) a w o next F8 ha (s2.perm (by
   show(G4 Β sz Τ _ _ D::(S++(R1++Α))).Perm (G4 Β sz Τ _ _ D::(R1++(S++Α)));rw[<-ax,<-ax]
   exact((List.perm_append_comm.append_right Α).cons _))) e1 e2 (λΘ Y ab ⟨I,r,q1,q2⟩ s'=>a6 Θ _ ab ⟨I,r,q1,rfl⟩ (by
    have back:∀ξ:LH,Sat θ ((ξ++R1)++(S++Α)) ab->Sat θ (ξ++(S++(R1++Α))) ab:=λξ s=>s.perm (by
     rw[ax];refine List.Perm.append_left ξ ?_;rw[<-ax,<-ax];exact List.perm_append_comm.append_right Α)
    rcases q2 with⟨rfl,rfl,rfl⟩|rfl
    .exact(h ab _ _).1 rfl (back [G4 Β sz Τ _ _ (D++ys)] s')
    .exact(h ab _ _).2 (back [G4 Β sz Τ _ _ (D++ys),G4 Β sz Τ _ _ D] s')))
 rcases s1.PY with⟨⟨h3,h4⟩,s2⟩|s2|⟨⟨⟨a2,a9⟩,h3,h4⟩,s2⟩
 .refine h1 K hn hc [] s2 λab I r=>⟨λhe s3=>Sat.f9 ⟨h3.trans he.symm,h4.trans (List.prefix_append _ _)⟩ s3,λs3=>Sat.d8 ?_⟩;refine(Sat.f5 (λι k q=>?_) (A.l6 (L:=G4 Β sz Τ I r (D++ys)::[]) θ (R1++Α) ab (s3.perm (List.Perm.swap _ _ _)))).perm (List.Perm.swap _ _ _);rw[h3];exact GD h4 q
 .refine h1 K hn hc [ε Β sz v.1 v.2] s2 λab I r=>⟨λ_ s3=>Sat.d8 s3,λs3=>Sat.d8 ?_⟩;exact(s3.perm (List.Perm.swap _ _ _)).tail
 .cases M with
  | none =>
   have a3:D=[]:=by
    rcases s2.PN.2 with h3|⟨a',a7,_⟩
    .exact h3
    .cases a7
   have hz:cap=0:=by rw[a2,a3];rfl
   subst hz;refine h1 K hn hc [] (by rw[a3];exact A.l8 Β sz Τ θ (R1++Α) w (L:=[]) s2.tail) λab I r=>⟨λhe s3=>Sat.f9 ⟨h3.trans he.symm,by rw[h4];exact List.prefix_append _ _⟩ s3,λs3=>Sat.d8 ?_⟩;refine(Sat.f5 (λι k q=>?_) (A.l6 (L:=G4 Β sz Τ I r (D++ys)::[]) θ (R1++Α) ab (s3.perm (List.Perm.swap _ _ _)))).perm (List.Perm.swap _ _ _);rw[h3,h4];exact q
  | some b =>
   exact Ef.l8 (L:=ε Β sz (some b) D::R1) (Τ:=Τ) (P:=P) (ty:=ty) (t:=t) (D:=D) K Z hn (hc.trans a2) a5 h0 hb hm θ Α a w o next F8 ha s2 e1 e2 (λΘ Y ab ⟨I,r,q1,q2⟩ s'=>a6 Θ _ ab ⟨I,r,q1,rfl⟩ (by
    subst q2;refine Sat.d8 (L:=R1++Α) ?_;rw[h3,h4];exact A.j7 θ Α ab s'))
def Ef.k9{t:TypeId}{x y:Operand}{α:Type}{Β:α->LV}{M:OA}{n c sz Τ bb cap b bU:Nat}{D:List α}{v:OA×List α}{z cs:LV}{R1 R2:LH}(e:α)[ht:IJ P t Τ sz bb z][hp:Pn L M α Β sz Τ cap D v R1][hq:KP R1 b bU cs R2]
  (K:χ env x=some (.slice M n c)) (Z:χ env y=some (.slice (some ⟨b,0,none⟩) 1 1)) (he:cs=Β e) (hn:n=D.length) (hc:c=cap) (hs:cs.length=sz) (J:∀u∈cs,u.oneCell' = true) (hb:(D.length+1)*bb<=140737488355328) (hm:D.length+1<=9223372036854775807)
  : Ef P L env (.call { callee:=.builtin .append,args:=#[x,y],argTypes:=#[t,t] }) ty (λΘ Y=>∃I r,Θ=.slice I (D++[e]).length r/\Y = JF Β sz Τ I r (D++[e]) v::R2):=by
 subst he
 have hrd:C7 R1 (some ⟨b,0,none⟩) α Β sz [e]:=⟨λθ Α w s=>by
  have hb:=Sat.OB (Α:=Α) s hq.perm;refine⟨λy Z=>by rw[D6 Z];exact hs,.inr ⟨_,rfl,λi v hv=>?_⟩⟩;rw[fi,dI hb];simpa using hv⟩
 intro θ Α a w o next F8 ha s e1 e2 a2
 refine Ef.l5 (P:=P) (ty:=ty) (t:=t) (hp:=hp) (hq:=hrd) K Z hn hc rfl (Nat.zero_lt_one) (λy Z u hu=>by rw[D6 Z] at hu;exact J u hu) (by simpa using hb) (by simpa using hm) θ Α a w o next F8 ha s e1 e2 (λΘ Y ab ⟨I,r,q1,q2⟩ s'=>a2 Θ _ ab ⟨I,r,q1,rfl⟩ ?_)
 subst q2;have s3:Sat θ (JF Β sz Τ I r (D++[e]) v::(obj b bU (Β e)::R2++Α)) ab:=s'.perm ((hq.perm.append_right Α).cons _);exact(s3.perm (List.Perm.swap _ _ _)).tail
