/- Lemmas. -/
import Derived.Test.YtlgpgjdggilkgaaGreatDoorErba
set_option linter.all false
set_option maxHeartbeats 8000000
namespace Go.Proofs.YtlgpgjdggilkgaaGreatDoor
section
open Go.V
abbrev KT:Nat:=135
abbrev Kb:Nat:=222
structure G7 where
 d:Int
 fr:Int
 ts:Int
 to:Int
 am:List (Int×Int)
 deriving Inhabited,DecidableEq
structure IL where
 m:G7
 M:OA
 cap:Nat
 deriving Inhabited
def aW(l:IL):LV:=[E l.m.d,E l.m.fr,E l.m.ts,E l.m.to,ae l.M l.m.am.length l.cap]
def jZ(l:IL):∀u∈aW l,u.oneCell' = true:=by simp[aW,Value.oneCell']
instance:Mf aW:=⟨jZ⟩
abbrev gy(l:IL):HP:=ε dH 2 l.M l.m.am
def eD(l:IL):JJ (gy l):=cA _ _ _ _
structure IF where
 Κ:Int
 F:Int
 eZ:Int
 yes:Bool
 Η:List G7
 Ι:List Int
 deriving Inhabited,DecidableEq
structure Ko where
 Κ:Int
 F:Int
 eZ:Int
 yes:Bool
 Η:List IL
 ad:OA
 fe:Nat
 Ι:List Int
 A7:OA
 C4:Nat
def Ko.m(c:Ko):IF:=⟨c.Κ,c.F,c.eZ,c.yes,c.Η.map (·.m),c.Ι⟩
def dS(c:Ko):LV:=[E c.Κ,E c.F,E c.eZ,.bool c.yes,ae c.ad c.Η.length c.fe,ae c.A7 c.Ι.length c.C4]
def DK(c:Ko):∀u∈dS c,u.oneCell' = true:=by simp[dS,Value.oneCell']
instance:Mf dS:=⟨DK⟩
def ID(c:Ko):HP:=Nf (ε aW 5 c.ad c.Η) (Nf (Ρ gy c.Η) (ε (a0 .i64) 1 c.A7 c.Ι))
def wM{c:Ko}{L:LH}:A (ID c::L) (ε aW 5 c.ad c.Η::Ρ gy c.Η::ε (a0 .i64) 1 c.A7 c.Ι::L):=A.OM.trans (A.c7 A.OM)
def Id(c:Ko):JJ (ID c):=JJ.and (cA _ _ _ _) (JJ.and (eg eD) (cA _ _ _ _))
def cP(l:G7):List Int:=[l.d,l.fr,l.ts,l.to]++l.am.flatMap λa=>[a.1,a.2]
def Jc(l:List Int):List Int:=uv l.length++JP l
def IQ(m:IF):List Int:=uv (zz m.Κ)++uv (zz m.F)++uv (zz m.eZ)++[if m.yes=true then 1 else 0]++uv (zz m.Η.length)++(m.Η.flatMap λl=>Jc (cP l))++Jc m.Ι
def kC(l:G7):Prop:=(id l.d/\id l.fr/\id l.ts/\id l.to)/\l.am.length<=100/\∀a∈l.am,id a.1/\id a.2
structure Kp (m:IF):Prop where
 num:id m.Κ/\id m.F/\id m.eZ
 Η:m.Η.length<=32
 lg:∀l∈m.Η,kC l
 fl:m.Ι.length<=1000
 fn:∀f∈m.Ι,id f
def NW(l:G7)(j:Nat):List Int:=[l.d,l.fr,l.ts,l.to]++(l.am.take j).flatMap λa=>[a.1,a.2]
theorem Gu(l:G7):NW l l.am.length=cP l:=by unfold NW cP;grind
theorem EQ(l:G7){j:Nat}(h:j<l.am.length):NW l (j+1)=NW l j++[l.am[j]!.1,l.am[j]!.2]:=by
 grind [NW,av]
theorem oJ(l:G7):(cP l).length=4+2*l.am.length:=by
 have h:∀a:List (Int×Int),(a.flatMap λa=>[a.1,a.2]).length=2*a.length:=λa=>by
  induction a with
  | nil=>rfl
  | cons x t ih=>grind
 unfold cP;grind
def Gt(l:G7){j:Nat}(h:j<=l.am.length):(NW l j).length=4+2*j:=by
 have:=oJ ⟨l.d,l.fr,l.ts,l.to,l.am.take j⟩
 rw[aK,cX h] at this;exact this
theorem oK{l:G7}(h:kC l):∀x∈cP l,id x:=λx K=>by
 obtain⟨⟨J,U,h3,h4⟩,_,h5⟩:=h;rcases It K with q|q
 .grind
 grind
theorem zK{l:List Int}(h:∀x∈l,id x)(hl:l.length<=1000000):(Jc l).length<=10+10*l.length:=by
 grind [lz,fZ,Jc]
def mc:∀{ls:List G7},(∀l∈ls,kC l)->(ls.flatMap λl=>Jc (cP l)).length<=2050*ls.length
 | [],_=>au _
 | l::ls,h=>by
  have J:=mc (ls:=ls) (λx K=>h x (aB _ K));have U:=h l az;have h3:=oJ l;have h4:=zK (oK U) (by have:=U.2.1;omega);have h5:=U.2.1;rw[aR,aq,aO];omega
attribute [local irreducible] Δ R GP Ο h2 GF GE O Ef A8 A CB GB V.Enters
theorem yR{L:LH}(c:Ko)(hc:Kp c.m) :
  Λ Ε 204 #[bh (dS c)] (ID c::L) (λv Y=>∃M cap,v=ae M (IQ c.m).length cap/\Y = Υ (a0 .u8) 1 5 M cap (IQ c.m)::ID c::L):=by
 obtain⟨⟨k1,k2,k3⟩,hl,c3,a4,b0⟩:=hc;have c4:c.Η.length<=32:=by have:c.m.Η.length=c.Η.length:=ah _;omega
 have a4:c.Ι.length<=1000:=a4;have u1:=fZ (jI k1.1 k1.2);have u2:=fZ (jI k2.1 k2.2);have u3:=fZ (jI k3.1 k3.2);have k5:id (c.Η.length:Int):=by unfold id;omega
 have u5:=fZ (jI k5.1 k5.2);refine Λ.bd ?_;refine Δ.υ ((A.dup (Id c).Mx).trans wM) ?_;simp only[dS];refine Ih ?_;intros;rename_i bc bw;refine R.υ (A.trans (cq:=MH bw [] ⟨none,0,0⟩ (obj bc Kb (dS c)::ε aW 5 c.ad c.Η::Ρ gy c.Η::ε (a0 .i64) 1 c.A7 c.Ι::ID c::L)) ((A.c8 (a0 .u8) 1 5).trans (by simp only[MH,aX,dS];exact ag)) (mN ⟨none,0,0⟩)) ?_;refine R.ca (kG bw [] c.Κ k1.1 k1.2 (aC _)) ?_;rintro _ _ rfl;rw[ak];simp only[dS];refine Ih ?_;intros;refine R.ca (kG bw (uv (zz c.Κ)) c.F k2.1 k2.2 (aQ u1 ac)) ?_;rintro _ _ rfl;refine Ih ?_;intros;have x2:(uv (zz c.Κ)++uv (zz c.F)).length<=20:=by rw[aq];exact Nat.add_le_add u1 u2
 refine R.ca (kG bw (uv (zz c.Κ)++uv (zz c.F)) c.eZ k3.1 k3.2 B) ?_;rintro _ _ rfl;refine Ih ?_;intros;have x3:(uv (zz c.Κ)++uv (zz c.F)++uv (zz c.eZ)).length<=30:=by rw[aq];exact Nat.add_le_add x2 u3
 generalize TS:uv (zz c.Κ)++uv (zz c.F)++uv (zz c.eZ)=X3 at *;refine R.ca (Af bw X3 c.yes B) ?_;rintro _ _ rfl;refine Ih ?_;intros;have x4:(X3++[if c.yes=true then 1 else 0]).length<=31:=by rw[aq];exact Nat.add_le_add x3 (au 1)
 generalize TT:X3++[if c.yes=true then 1 else 0]=X4 at *;refine R.ca (kG bw X4 (c.Η.length:Int) k5.1 k5.2 B) ?_;rintro _ _ rfl;refine Ih ?_;intros;have x5:(X4++uv (zz c.Η.length)).length<=41:=by rw[aq];exact B
 generalize TU:X4++uv (zz (c.Η.length:Int))=X5 at *;have c5:c.m.Η=c.Η.map (·.m):=rfl;refine Δ.loop (α:=Nat) (λi=>i<=c.Η.length) (λi=>[(1,al bc),(3,al bw),(33,ae c.ad c.Η.length c.fe),(34,E (c.Η.length:Int)),(35,E (i:Int))]) (λi=>LF bw (X5++(c.m.Η.take i).flatMap λl=>Jc (cP l))::obj bc Kb [E c.Κ,E c.F,E c.eZ,.bool c.yes,ae c.ad c.Η.length c.fe,ae c.A7 c.Ι.length c.C4]::ε aW 5 c.ad c.Η::Ρ gy c.Η::ε (a0 .i64) 1 c.A7 c.Ι::ID c::L) (λi=>c.Η.length - i) 0 B aA (by rw[aU,cH,aJ];exact A.refl _) ?_;intro i hi;have I:=mc (ls:=c.m.Η.take i) ay;rw[aK] at I;by_cases b7:i<c.Η.length
 case neg =>
  rw[aG ay] at I ⊢
  have hW:X5++(c.m.Η.flatMap λl=>Jc (cP l))++uv c.Ι.length++JP c.Ι=IQ c.m:=by
   rw[<-TU,<-TT,<-TS];unfold IQ;rw[show c.m.Η.length=c.Η.length by grind];simp only[Jc,ax];rfl
  have r:∀f∈c.Ι,id f:=b0;have b8:c.m.Η.length<=32:=hl
  have a9:(X5++(c.m.Η.flatMap λl=>Jc (cP l))).length<=41+65600:=by
   rw[aq];have:min i c.m.Η.length<=c.m.Η.length:=B;omega
  have c2:(IQ c.m).length<=1000000:=by
   have J:=lz r;have U:=fZ (n:=c.Ι.length) B;rw[<-hW,aq,aq];omega
  refine Ih ?_;intros;refine R.ca (qW bw (X5++(c.m.Η.flatMap λl=>Jc (cP l))) c.A7 c.Ι.length c.C4 c.Ι rfl r B) ?_;rintro _ _ rfl;rw[hW];refine Ih ?_;intros;refine R.ca (Ae bw (IQ c.m) B) ?_;rintro _ _⟨M,cap,rfl,_,rfl⟩;refine Ih ?_;intros;exact KX.en ⟨M,cap,rfl,rfl⟩
 have b1:(i:Int).toNat=i:=B;have a3:=bA b7;have a6:c.m.Η[i]! = c.Η[i]!.m:=ay;have c1:kC c.Η[i]!.m:=ay;obtain⟨⟨g1,g2,g3,g4⟩,g5,g6⟩:=c1;refine Δ.υ (A.at (Μ:=Ρ gy c.Η) (A.d8 (f:=gy) a3)) ?_;obtain⟨l,a5⟩:∃l,c.Η[i]! = l:=⟨_,rfl⟩;have b6:c.Η[(i:Int).toNat]! = l:=by rw[b1];exact a5
 rw[a5] at g1 g2 g3 g4 g5 g6 a6 ⊢;refine Ih ?_;intros;rw[b6];rename_i bl bn;refine Δ.loop (α:=Nat×OA×Nat) (λg=>g.1<=l.m.am.length) (λg=>[(1,al bc),(3,al bw),(33,ae c.ad c.Η.length c.fe),(34,E (c.Η.length:Int)),(35,E (i:Int)),(6,ae g.2.1 (NW l.m g.1).length g.2.2),(49,ae l.M l.m.am.length l.cap),(50,E (l.m.am.length:Int)),(51,E (g.1:Int))]) (λg=>Υ (a0 .i64) 1 kR g.2.1 g.2.2 (NW l.m g.1)::gy l::Ρ gy c.Η::LF bw (X5++(c.m.Η.take i).flatMap λl=>Jc (cP l))::obj bc Kb [E c.Κ,E c.F,E c.eZ,.bool c.yes,ae c.ad c.Η.length c.fe,ae c.A7 c.Ι.length c.C4]::ε aW 5 c.ad c.Η::ε (a0 .i64) 1 c.A7 c.Ι::ID c::L) (λg=>l.m.am.length - g.1) (0,some ⟨bn,0,none⟩,4) B aA ?_ ?_
 .refine(A.d9 (Β:=a0 .i64) (sz:=1) (D:=NW l.m 0) (n:=4) rfl rfl (λ_ _=>rfl) ac).trans ?_;exact ag
 rintro⟨j,F4,IM⟩ hj;dsimp only at hj ⊢;have c0:=Gt l.m hj;by_cases b5:j<l.m.am.length
 case neg =>
  have b3:j=l.m.am.length:=B;subst b3;rw[Gu] at c0 ⊢;have b9:∀x∈cP l.m,id x:=oK ay
  have a9:(X5++((c.m.Η.take i).flatMap λl=>Jc (cP l))).length<=41+65600:=by
   rw[aq];have:min i c.m.Η.length<=c.m.Η.length:=B;omega
  refine Ih ?_;intros;refine R.υ (Y:=LF bw (X5++(c.m.Η.take i).flatMap λl=>Jc (cP l))::Υ (a0 .i64) 1 kR F4 IM (cP l.m)::gy l::Ρ gy c.Η::obj bc Kb [E c.Κ,E c.F,E c.eZ,.bool c.yes,ae c.ad c.Η.length c.fe,ae c.A7 c.Ι.length c.C4]::ε aW 5 c.ad c.Η::ε (a0 .i64) 1 c.A7 c.Ι::ID c::L) ag ?_;refine R.ca (qW bw (X5++(c.m.Η.take i).flatMap λl=>Jc (cP l)) F4 (cP l.m).length IM (cP l.m) rfl b9 B) ?_;rintro _ _ rfl;refine Ih ?_;intros;refine⟨i+1,B,B,?_,?_⟩
  .rw[bC i];exact aA
  .rw[av ay,cZ,<-C5 ay,a6,aR,cH,aJ,<-ax X5];refine A.trans (cq:=LF bw (X5++((c.m.Η.take i).flatMap λl=>Jc (cP l))++uv (cP l.m).length++JP (cP l.m))::obj bc Kb [E c.Κ,E c.F,E c.eZ,.bool c.yes,ae c.ad c.Η.length c.fe,ae c.A7 c.Ι.length c.C4]::ε aW 5 c.ad c.Η::Ρ gy c.Η::ε (a0 .i64) 1 c.A7 c.Ι::ID c::L) ag ?_;rw[show X5++((c.m.Η.take i).flatMap λl=>Jc (cP l))++uv (cP l.m).length++JP (cP l.m)=X5++((c.m.Η.take i).flatMap λl=>Jc (cP l))++Jc (cP l.m) by simp only[Jc,ax]];exact A.refl _
 have b4:(j:Int).toNat=j:=B;refine Ih ?_;intros;rename_i ba b2;rw[b4];refine R.υ ((A.d9 (Β:=a0 .i64) (sz:=1) (D:=[l.m.am[j]!.1,l.m.am[j]!.2]) (n:=2) rfl rfl (λ_ _=>rfl) ac).trans (A.JC.trans ag)) ?_;refine R.ef (Ef.c9 (ys:=[l.m.am[j]!.1,l.m.am[j]!.2]) rfl rfl rfl rfl rfl (λe _=>ga _ e) gg gg) ac ?_;rintro _ _⟨a7,a2,rfl,rfl⟩;rw[<-EQ l.m b5];refine Ih ?_;intros;refine⟨(j+1,a7,a2),by dsimp only;omega,B,?_,by exact ag⟩;dsimp only;rw[bC j];exact aA
end
section
open Go.V
theorem He(n:Nat):1<=(uv n).length:=by
 grind [lC,oo]
def Dp:∀l:List Int,l.length<=(JP l).length
 | []=>au _
 | n::l=>by
  have J:=Dp l;have U:=He (zz n);show l.length+1<=(uv (zz n)++JP l).length;rw[aq];omega
theorem qx(l:List Int):gM (JP l):=λx K=>by
 obtain⟨n,_,h⟩:=List.mem_flatMap.1 K;exact kc _ x h
def Fd(n:Int)(l:List Int):JP (n::l)=uv (zz n)++JP l:=rfl
theorem jG{a b:List Int}(ha:gM a)(hb:gM b):gM (a++b):=ay
attribute [local irreducible] Δ R GP Ο h2 GF GE O Ef A8 A CB GB V.Enters
theorem Aw{L:LH}(b:Nat)(ys t:List Int)(Z:∀y∈ys,id y)(ht:gM t)(hm:ys.length<=100000)(hl:t.length<=10000000) :
  Λ Ε 283 #[al b,.func (.func 198) #[al b] #[]] (J5 b (uv ys.length++(JP ys++t)) 0::L)
   (λv Y=>∃M cap,v=ae M ys.length cap/\Y = Υ (a0 .i64) 1 3 M cap ys::J5 b t 0::L):=by
 have a9:=Dp ys;have b1:=lz Z;refine Λ.bd ?_;refine Ih ?_;intros;refine R.cr (rm b (uv ys.length++(JP ys++t)) 0 (by grind [kc,qx])) ?_;rw[uS B];dsimp only;have a3:ys.length<=(JP ys++t).length/\(JP ys++t).length<=20000000:=by rw[aq];omega
 obtain⟨a3,b3⟩:=a3;refine R.c8 (f:=λx=>NV b (JP ys++t) 0 x []) ?_;intro x;simp only[aj,ak];refine R.d7 ?_;intro a2;refine Ih ?_;intros;refine R.ef (Ef.l9 (a0 .i64) rfl rfl B B B) ac ?_;rintro _ _⟨mb,rfl,rfl⟩;refine Ih ?_;intros;refine Δ.loop (α:=Nat×Ns) (λg=>g.1<=ys.length) (λg=>[(0,al b),(1,.func (.func 198) #[al b] #[]),(6,ae g.2.M (ys.take g.1).length g.2.cap),(29,E (ys.length:Int)),(30,E (g.1:Int))]) (λg=>Υ (a0 .i64) 1 3 g.2.M g.2.cap (ys.take g.1)::J5 b (JP (ys.drop g.1)++t) 0::L) (λg=>ys.length - g.1) (0,⟨some ⟨mb,0,none⟩,0,(ys.length:Int).toNat⟩) B aA (A.c7 (fF x a2)) ?_;rintro⟨i,y⟩ hi;dsimp only at hi ⊢;have b4:(ys.take i).length=i:=by rw[aK];omega
 by_cases hin:i<ys.length
 case neg =>
  have b0:i=ys.length:=B;rw[aG B,bN B];refine Ih ?_;intros;exact KX.en ⟨y.M,y.cap,rfl,rfl⟩
 have a6:ys.drop i=ys[i]!::ys.drop (i+1):=jh hin;have a7:=Z _ (bA hin);have a5:gM (JP (ys.drop (i+1))++t):=jG (qx _) ht
 have b2:(JP (ys.drop (i+1))++t).length<=20000000:=by
  have J:=lz (l:=ys.drop (i+1)) ay;rw[ck] at J;rw[aq];omega
 rw[a6,Fd,ax];refine Ih ?_;intros;refine R.ef (Ef.l6 (vs:=[]) (first:=[al b]) (cap:=[]) (jO (L:=[]) b ys[i]! (JP (ys.drop (i+1))++t) a7 a5) rfl rfl (A.perm (List.Perm.swap _ _ _))) ac ?_;rintro _ _⟨_,⟨rfl,rfl⟩,hL⟩;simp only[aj,ak] at hL;subst hL;refine Ih ?_;intros;refine R.ef (Ef.a8 (e:=ys[i]!) rfl rfl rfl rfl rfl aS (ga _ _) B B) ac ?_;rintro _ _⟨a4,I,rfl,rfl⟩;rw[C5 hin,<-av hin];refine Ih ?_;intros;refine R.υ (A.at (Μ:=J5 b (JP (ys.drop (i+1))++t) 0) (A.refl _)) ?_;refine R.c8 (f:=λx=>NV b (JP (ys.drop (i+1))++t) 0 x []) ?_;intro x2;simp only[aj,ak];refine R.d7 ?_;intro r;refine Ih ?_;intros;refine⟨(i+1,⟨a4,0,I⟩),B,B,?_,?_⟩
 .dsimp only;rw[show(((i+1:Nat)):Int)=(i:Int)+1 by omega];exact aA
 .dsimp only;refine(fF x2 r).trans ?_;exact ag
def rn{L:LH}(b:Nat)(ys t:List Int)(Z:∀y∈ys,id y)(ht:gM t)(hm:ys.length<=100000)(hl:t.length<=10000000) :
  Λ Ε 200 #[al b] (J5 b (uv ys.length++(JP ys++t)) 0::L)
   (λv Y=>∃M cap,v=ae M ys.length cap/\Y = Υ (a0 .i64) 1 3 M cap ys::J5 b t 0::L):=by
 refine Λ.bd ?_;refine Ih ?_;intros;refine R.ca (Aw b ys t Z ht hm hl) ?_;rintro _ _⟨M,cap,rfl,rfl⟩;refine Ih ?_;intros;exact KX.en ⟨M,cap,rfl,rfl⟩
end
section
open Go.V
def vW(l:List Int):gM (Jc l):=jG (kc _) (qx _)
def BI(ls:List G7):gM (ls.flatMap λl=>Jc (cP l)):=λx K=>by
 obtain⟨l,_,h⟩:=List.mem_flatMap.1 K;exact vW _ x h
theorem DV(m:IF):IQ m=uv (zz m.Κ)++(uv (zz m.F)++(uv (zz m.eZ)++((if m.yes=true then 1 else 0)::(uv (zz m.Η.length)++((m.Η.flatMap λl=>Jc (cP l))++Jc m.Ι))))):=by
 grind [IQ]
theorem DH{am:List (Int×Int)}:∀{j:Nat},j<am.length->(am.flatMap λa=>[a.1,a.2])[2*j]! = am[j]!.1/\(am.flatMap λa=>[a.1,a.2])[2*j+1]! = am[j]!.2:=by
 induction am with
 | nil=>grind
 | cons a t ih =>
  intro j h;rw[aR];cases j with
  | zero=>grind
  | succ j =>
   grind
theorem Df{l:G7}{j:Nat}(h:j<l.am.length):(cP l)[4+2*j]! = l.am[j]!.1/\(cP l)[4+2*j+1]! = l.am[j]!.2:=by
 have:=DH h
 grind [cP]
attribute [local irreducible] Δ R GP Ο h2 GF GE O Ef A8 A CB GB V.Enters
abbrev vu:=Uy [.ef 13,.ef 14]
abbrev vt:=Ux [.ev 10,.ev 11,.ef 12,.ef 13,.ev 14,.ef 15]
abbrev vr:List Im:=[.ev 0,.ev 1,.ef 2,.ev 3,.ef 4,.ev 5]
def Oh{φ ψ:Prop}(k:ψ)(h:Hid ψ->φ:=by intro k;(repeat (first|refine aa ?_|intro sh|refine Δ.dr 93 11 vu ?_|refine Δ.dr 93 15 vt ?_|refine Δ.dr 93 19 vr ?_));(repeat revert sh);exact Hid.out k):φ:=h ⟨k⟩
theorem yV{L:LH}(M:OA)(n c:Nat)(m:IF)(hm:Kp m)[hrd:C7 L M Int (a0 .u8) 1 (IQ m)](hn:n=(IQ m).length) :
  Λ Ε 143 #[ae M n c] L (λv Y=>∃c',v=.tuple #[bh (dS c'),.bool true]/\c'.m=m/\Y = ID c'::L):=by
 subst hn;obtain⟨⟨k1,k2,k3⟩,hl,b7,d2,b6⟩:=hm;have k5:id (m.Η.length:Int):=by unfold id;omega
 have u1:=fZ (jI k1.1 k1.2);have u2:=fZ (jI k2.1 k2.2);have u3:=fZ (jI k3.1 k3.2);have u5:=fZ (jI k5.1 k5.2);have hL:=mc b7;have hF:=zK b6 B
 have d1:(IQ m).length<=1000000:=by
  rw[DV];simp only[aq,aO];omega
 have b0:=vW m.Ι;have b1:=jG (BI m.Η) b0;have b2:=jG (kc (zz m.Η.length)) b1;have b3:gM ((if m.yes=true then 1 else 0)::(uv (zz m.Η.length)++((m.Η.flatMap λl=>Jc (cP l))++Jc m.Ι))):=ay;have b4:=jG (kc (zz m.eZ)) b3;have b5:=jG (kc (zz m.F)) b4;refine Λ.bd ?_;refine Oh ?_;intros;refine R.ca (CF M (IQ m).length c (IQ m) rfl B) ?_;rintro _ _⟨br,rfl,rfl⟩;rw[DV];refine Oh ?_;intros;refine R.cr (jO br m.Κ _ k1 b5) ?_;refine Oh ?_;intros;refine R.cr (jO br m.F _ k2 b4) ?_;refine Oh ?_;intros;refine R.cr (jO br m.eZ _ k3 b3) ?_;refine Oh ?_;intros;refine R.cr (xD br m.yes _) ?_;refine Oh ?_;intros;rename_i a2 bc;refine R.υ (A.at (Μ:=J5 br (uv (zz m.Η.length)++((m.Η.flatMap λl=>Jc (cP l))++Jc m.Ι)) 0) (A.refl _)) ?_;refine R.cr (jO br (m.Η.length:Int) _ k5 b1) ?_;refine Oh ?_;intros;refine Δ.loop (α:=Nat×List IL×OA×Nat) (λg=>g.1<=m.Η.length/\g.2.1.map (·.m)=m.Η.take g.1) (λg=>[(2,al a2),(4,al br),(5,al bc),(6,E (m.Η.length:Int)),(30,E (m.Η.length:Int)),(31,E (g.1:Int))]) (λg=>J5 br ((m.Η.drop g.1).flatMap (λl=>Jc (cP l))++Jc m.Ι) 0::obj bc Kb [E m.Κ,E m.F,E m.eZ,.bool m.yes,ae g.2.2.1 g.2.1.length g.2.2.2,ae none 0 0]::Υ aW 5 KT g.2.2.1 g.2.2.2 g.2.1::Ρ gy g.2.1::obj a2 Kb [E 0,E 0,E 0,.bool false,ae none 0 0,ae none 0 0]::L) (λg=>m.Η.length - g.1) (0,[],none,0) ay aA ?_ ?_
 .dsimp only;rw[List.drop_zero,aX];refine(A.c8 aW 5 KT).trans ((A.a8 gy).trans ?_);exact ag
 rintro⟨i,vs,ad,fe⟩ ⟨hi,a5⟩;dsimp only at hi a5 ⊢
 have d3:vs.length=i:=by
  have:=congrArg List.length a5
  rw[ah,aK] at this;omega
 by_cases b9:i<m.Η.length
 case neg =>
  rw[aG B] at a5;rw[bN B,cH,ak];refine Oh ?_;intros;refine R.υ (Y:=J5 br (uv m.Ι.length++(JP m.Ι++[])) 0::(obj bc Kb [E m.Κ,E m.F,E m.eZ,.bool m.yes,ae ad vs.length fe,ae none 0 0]::Υ aW 5 KT ad fe vs::Ρ gy vs::obj a2 Kb [E 0,E 0,E 0,.bool false,ae none 0 0,ae none 0 0]::L)) (by rw[aJ];show A (J5 br (Jc m.Ι) 0::_) (J5 br (Jc m.Ι) 0::_);exact ag) ?_;refine R.ca (rn br m.Ι [] b6 (λ_ h=>iW h aD) B (aC _)) ?_;rintro _ _⟨A7,C4,rfl,rfl⟩;refine Oh ?_;intros;refine Ο.υ (Y:=J5 br [] 0::(obj bc Kb [E m.Κ,E m.F,E m.eZ,.bool m.yes,ae ad vs.length fe,ae A7 m.Ι.length C4]::Υ (a0 .i64) 1 kR A7 C4 m.Ι::Υ aW 5 KT ad fe vs::Ρ gy vs::obj a2 Kb [E 0,E 0,E 0,.bool false,ae none 0 0,ae none 0 0]::L)) ag ?_;refine Ο.cr (CI br [] 0) ?_;rw[Ω bR,μ rfl];refine Oh ?_;intros;refine KX.a8 (by exact B6.cell rfl aS (B6.tmp rfl (B6.nil))) ?_ ⟨⟨m.Κ,m.F,m.eZ,m.yes,vs,ad,fe,m.Ι,A7,C4⟩,by rw[bI rfl];rfl,by unfold Ko.m;dsimp only;rw[a5],rfl⟩;refine(A.at (Μ:=Υ aW 5 KT ad fe vs) A.JC).trans ?_;refine(A.at (Μ:=Υ (a0 .i64) 1 kR A7 C4 m.Ι) A.JC).trans ?_;refine A.trans (cq:=Ρ gy vs::ε (a0 .i64) 1 A7 m.Ι::ε aW 5 ad vs::L) ag ?_;exact(A.g8 (eg eD) (cA _ _ _ _)).trans (A.swap.trans (A.g8 (cA _ _ _ _) (JJ.and (eg eD) (cA _ _ _ _))))
 have c6:=bA b9;have a9:=b7 _ c6;have c3:gM ((m.Η.drop (i+1)).flatMap (λl=>Jc (cP l))++Jc m.Ι):=ay;have a7:=mc (ls:=m.Η.drop (i+1)) ay;rw[ck] at a7;have c0:=oJ m.Η[i]!;have hI:=oK a9;have c1:=a9.2.1;rw[jh b9,aR,ax,show Jc (cP m.Η[i]!)=uv (cP m.Η[i]!).length++JP (cP m.Η[i]!) from rfl,ax];refine Oh ?_;intros;refine R.ca (rn br (cP m.Η[i]!) _ hI c3 B ay) ?_;rintro _ _⟨F4,IM,rfl,rfl⟩;obtain⟨l,c5⟩:∃l,m.Η[i]! = l:=⟨_,rfl⟩;rw[c5] at c0 hI c1 a9 ⊢;refine Oh ?_;intros;rename_i b8;have e0:(cP l)[Int.toNat 0]! = l.d:=rfl;have e1:(cP l)[Int.toNat 1]! = l.fr:=rfl;have e2:(cP l)[Int.toNat 2]! = l.ts:=rfl;have e3:(cP l)[Int.toNat 3]! = l.to:=rfl;simp only[e0,e1,e2,e3];refine Δ.loop (α:=Nat×OA×Nat) (λg=>g.1<=l.am.length) (λg=>[(2,al a2),(4,al br),(5,al bc),(6,E (m.Η.length:Int)),(30,E (m.Η.length:Int)),(31,E (i:Int)),(7,ae F4 (cP l).length IM),(8,al b8),(9,E (4+2*(g.1:Int)))]) (λg=>obj b8 KT [E l.d,E l.fr,E l.ts,E l.to,ae g.2.1 (l.am.take g.1).length g.2.2]::Υ dH 2 Lz g.2.1 g.2.2 (l.am.take g.1)::Υ (a0 .i64) 1 kR F4 IM (cP l)::J5 br ((m.Η.drop (i+1)).flatMap (λl=>Jc (cP l))++Jc m.Ι) 0::obj bc Kb [E m.Κ,E m.F,E m.eZ,.bool m.yes,ae ad vs.length fe,ae none 0 0]::Υ aW 5 KT ad fe vs::Ρ gy vs::obj a2 Kb [E 0,E 0,E 0,.bool false,ae none 0 0,ae none 0 0]::L) (λg=>l.am.length - g.1) (0,none,0) B aA ?_ ?_
 .dsimp only;rw[aU,aX];refine(A.c8 dH 2 Lz).trans ?_;exact ag
 rintro⟨j,a3,r⟩ hj;dsimp only at hj ⊢;have d0:(l.am.take j).length=j:=by rw[aK];omega
 by_cases a6:j<l.am.length
 case neg =>
  have c4:j=l.am.length:=B;subst c4;rw[cn] at d0 ⊢;refine Oh ?_;intros;refine R.ef (Ef.a8 (Β:=aW) (e:=(⟨l,a3,r⟩:IL)) rfl rfl rfl rfl rfl aS (jZ _) B B) ac ?_;rintro _ _⟨a4,I,rfl,rfl⟩;refine Oh ?_;intros;refine⟨(i+1,vs++[⟨l,a3,r⟩],a4,I),⟨B,by grind [av]⟩,B,?_,?_⟩
  .dsimp only;rw[bC i];exact aA
  .dsimp only;refine(A.at (Μ:=Υ dH 2 Lz a3 r l.am) A.JC).trans ?_;refine A.trans (cq:=gy ⟨l,a3,r⟩::Ρ gy vs::Υ aW 5 KT a4 I (vs++[⟨l,a3,r⟩])::J5 br ((m.Η.drop (i+1)).flatMap (λl=>Jc (cP l))++Jc m.Ι) 0::obj bc Kb [E m.Κ,E m.F,E m.eZ,.bool m.yes,ae a4 (vs++[(⟨l,a3,r⟩:IL)]).length I,ae none 0 0]::obj a2 Kb [E 0,E 0,E 0,.bool false,ae none 0 0,ae none 0 0]::L) ag ?_;exact(A.d7 (f:=gy) eD).trans (A.swap.trans ((A.c9 (f:=gy) eD).trans ag))
 obtain⟨q1,q2⟩:=Df a6;have i1:(4+2*(j:Int)).toNat=4+2*j:=B;have i2:(4+2*(j:Int)+1).toNat=4+2*j+1:=B;have c2:l.am.take (j+1)=l.am.take j++[((cP l)[(4+2*(j:Int)).toNat]!,(cP l)[(4+2*(j:Int)+1).toNat]!)]:=by rw[i1,i2,q1,q2,av a6,C5 a6]
 refine Oh ?_;intros;refine Ο.ef (Ef.a8 (Β:=dH) (e:=((cP l)[(4+2*(j:Int)).toNat]!,(cP l)[(4+2*(j:Int)+1).toNat]!)) rfl rfl rfl rfl rfl aS (kO _) B B) ac ?_;rintro _ _⟨a4,I,rfl,rfl⟩;rw[<-c2];refine Oh ?_;intros;refine⟨(j+1,a4,I),by dsimp only;omega,B,?_,by exact ag⟩;dsimp only;rw[show(4+2*((j+1:Nat):Int))=4+2*(j:Int)+2 by omega];exact aA
end
section
open Go.V
attribute [local irreducible] Δ R GP Ο h2 GF GE O Ef A8 A CB GB V.Enters
def Qy(f t i n:Int):G0:=⟨⟨f,t,i,n,[]⟩,none,0⟩
def I8(f t:Int)(am:List (Int×Int)):List G0:=am.map λa=>Qy f t a.1 a.2
def iL{L:LH}(M:OA)(n c:Nat)(am:List (Int×Int))[hrd:C7 L M (Int×Int) dH 2 am](hn:n=am.length)(hl:am.length<=1000)(f t:Int) :
  Λ Ε 147 #[ae M n c,E f,E t] L (λv Y=>∃cU fH,v=ae cU (I8 f t am).length fH/\Y = Υ bJ 5 JD cU fH (I8 f t am)::L):=by
 subst hn;refine Λ.bd ?_;refine Ih ?_;intros;refine Δ.loop (α:=Nat×OA×Nat) (λg=>g.1<=am.length) (λg=>[(1,E f),(2,E t),(7,ae g.2.1 (I8 f t (am.take g.1)).length g.2.2),(10,ae M am.length c),(11,E (am.length:Int)),(12,E (g.1:Int))]) (λg=>Υ bJ 5 JD g.2.1 g.2.2 (I8 f t (am.take g.1))::L) (λg=>am.length - g.1) (0,none,0) (aC _) aA (by dsimp only;rw[aU];exact A.c8 bJ 5 JD) ?_;rintro⟨i,cU,fH⟩ hi;dsimp only at hi ⊢;have a5:(I8 f t (am.take i)).length=i:=by unfold I8;rw[ah,aK];omega
 by_cases I:i<am.length
 case neg =>
  rw[aG B];refine Ih ?_;intros;exact KX.en ⟨cU,fH,rfl,rfl⟩
 have a3:(i:Int).toNat=i:=B
 have a4:I8 f t (am.take (i+1))=I8 f t (am.take i)++[Qy f t am[i]!.1 am[i]!.2]:=by
  unfold I8;rw[av I,aL,C5 I];rfl
 refine Ih ?_;intros;rw[a3];refine R.ef (Ef.a8 (Β:=bJ) (e:=Qy f t am[i]!.1 am[i]!.2) rfl rfl rfl rfl rfl aS (jY _) B B) ac ?_;rintro _ _⟨a2,r,rfl,rfl⟩;rw[<-a4];refine Ih ?_;intros;refine⟨(i+1,a2,r),by dsimp only;omega,by dsimp only;omega,?_,by exact ag⟩;dsimp only;rw[bC i];exact aA
def sB{L:LH}(b:Nat)(S:Χ) :
  Λ Ε 202 #[al b] (aN b S::L) (C9 (E (S.Ι.length:Int)) (aN b S::L)):=by
 refine Λ.bd ?_;refine Δ.c8 (f:=gT b S) ?_;intro x;simp only[gT,B1,aj,ak];refine Δ.d7 ?_;intro hF;have r:x.Ι.length=S.Ι.length:=by rw[<-hF.Ι];simp
 simp only[bV];refine Ih ?_;intros;exact KX.a8 aw (gj x hF) ⟨by rw[<-r];rfl,rfl⟩
def wJ{L:LH}(M:OA)(c:Nat)(T:List JX)[hrd:C7 L M JX ee 11 T](hA:∀f∈T,A L (Kw f::L))(hl:T.length<=100000)(hp:∀m∈T,m.m.Ζ.length<=1000000/\m.m.made.length<=1000000) :
  Λ Ε 52 #[ae M T.length c,.func (.func 53) #[] #[]] L (λv Y=>∃a3 c' I,v=ae a3 I.length c'/\I.map (·.m)=T.map (·.m)/\Y = Υ ee 11 fS a3 c' I::ew NT I::L):=by
 refine Λ.bd ?_;by_cases h0:T.length=0
 .have e:T=[]:=bG h0;subst e;refine Ih ?_;intros;exact KX.a8 aw ((A.j0 NT).trans (A.c8 ee 11 fS)) ⟨none,0,[],rfl,rfl,rfl⟩
 refine Ih ?_;intros;refine R.ef (Ef.g8 ee Ka rfl rfl rfl B B B B) ac ?_;rintro _ _⟨bs,rfl,rfl⟩;rw[show(T.length:Int).toNat=T.length by omega];refine Ih ?_;intros
 refine Δ.loop (α:=Nat×List JX) (λz=>z.1<=T.length/\z.2.length=T.length/\(z.2.take z.1).map (·.m)=(T.take z.1).map (·.m)) (λz=>[(1,.func (.func 53) #[] #[]),(5,ae (some ⟨bs,0,none⟩) T.length T.length),(14,ae M T.length c),(15,E (T.length:Int)),(16,E (z.1:Int))])
  (λz=>Υ ee 11 fS (some ⟨bs,0,none⟩) T.length z.2::ew NT (z.2.take z.1)::L) (λz=>T.length - z.1) (0,List.replicate T.length Ka) ⟨aC _,by simp,by simp⟩ aA ?_ ?_
 .dsimp only;rw[aU];refine(A.j0 NT).trans ?_;exact ag
 rintro⟨i,zs⟩ ⟨hi,a7,r⟩;dsimp only at hi a7 r ⊢;by_cases a2:i<T.length
 case neg =>
  have a9:i=T.length:=B;subst a9;rw[aG B,aG B] at r;rw[aG (B:zs.length<=T.length)];refine Ih ?_;intros;refine KX.a8 aw (A.refl _) ⟨some ⟨bs,0,none⟩,T.length,zs,by rw[a7];rfl,r,rfl⟩
 have a4:(i:Int).toNat=i:=B;have a5:T[i]!∈T:=bA a2;have a6:=hp _ a5;refine Ih ?_;intros;rw[a4];refine R.υ (A.under (Μ:=[_,_,_]) (hA _ a5)) ?_;simp only[aj,ak];refine R.ef (Ef.d7 rfl rfl (wT T[i]! a6.1 a6.2)) ac ?_;rintro _ _⟨m',rfl,b0,rfl⟩;refine Ih ?_;intros;refine R.I1 (Ef.g9 (e:=m') rfl rfl aS aS (mA _) B) ?_;rintro _ _ rfl;rw[a4];refine Ih ?_;intros;refine⟨(i+1,zs.set i m'),⟨by dsimp only;omega,by dsimp only;simp;omega,?_⟩,by dsimp only;omega,?_,?_⟩
 .dsimp only;rw[eh B,av a2,aL,aL,r,<-C5 a2];simp[b0]
 .dsimp only;rw[bC i];exact aA
 .dsimp only;rw[eh B];refine A.c7 ?_;refine A.trans (cq:=NT m'::ew NT (zs.take i)::L) ag ?_;exact A.k8
abbrev yu:=Uy [.ef 13,.ev 14]
def OC{φ ψ:Prop}(k:ψ)(h:Hid ψ->φ:=by intro k;(repeat (first|refine aa ?_|intro sh|refine Δ.dr 19 1 yu ?_));(repeat revert sh);exact Hid.out k):φ:=h ⟨k⟩
def sA{L:LH}(b:Nat)(S:Χ)(k:Nat)(hk:k<=S.Ι.length)(hS:∀f∈S.Ι.drop k,f.Ζ.length<=1000000/\f.made.length<=1000000)(hl:S.Ι.length<=k+100000) :
  Λ Ε 203 #[al b,E (k:Int)] (aN b S::L) (λv Y=>∃M cap fs,v=ae M fs.length cap/\fs.map JX.m=S.Ι.drop k/\Y = Υ ee 11 fS M cap fs::ew NT fs::aN b S::L):=by
 refine Λ.bd ?_;refine Δ.c8 (f:=gT b S) ?_;intro x;simp only[gT,B1,aj,ak];refine Δ.d7 ?_;intro hF;have a6:x.Ι.length=S.Ι.length:=by rw[<-hF.Ι];simp
 have a2:(x.Ι.drop k).map JX.m=S.Ι.drop k:=by rw[<-hF.Ι,List.map_drop]
 refine Δ.c9 (sH (M:=x.A7) (cap:=x.C4) (D:=x.Ι) (Β:=ee) (sz:=11) (Τ:=fS)) ?_;rintro⟨a4,_⟩;have a3:(max 0 (min (k:Int) (x.Ι.length:Int))).toNat=k:=B
 have hE:∀ξ:LH,Λ Ε 52 #[ae (Jk x.A7 x.C4 11 (max 0 (min (k:Int) (x.Ι.length:Int))).toNat) (x.Ι.length - (max 0 (min (k:Int) (x.Ι.length:Int))).toNat) (x.C4 - (max 0 (min (k:Int) (x.Ι.length:Int))).toNat),.func (.func 53) #[] #[]] (JF ee 11 fS x.A7 x.C4 x.Ι x.fv::Ρ Kw x.Ι::ξ) (λv Y=>∃I c' r,v=ae I r.length c'/\r.map (·.m)=(x.Ι.drop k).map (·.m)/\Y = Υ ee 11 fS I c' r::ew NT r::JF ee 11 fS x.A7 x.C4 x.Ι x.fv::Ρ Kw x.Ι::ξ):=λξ=>by
  rw[a3];have h:=wJ (L:=JF ee 11 fS x.A7 x.C4 x.Ι x.fv::Ρ Kw x.Ι::ξ) (Jk x.A7 x.C4 11 k) (x.C4 - k) (x.Ι.drop k) (hrd:=C7.drop inferInstance a4 k) (λf hf=>(A.at (Μ:=Ρ Kw x.Ι) (A.d8 (f:=Kw) (dC hf))).trans ag) (by rw[ck];omega) (λf hf=>hS f.m (by rw[<-a2];exact Kg hf));rw[ck] at h;exact h
 simp only[bV];refine OC ?_;intros;refine Ο.υ (A.at (Μ:=JF ee 11 fS x.A7 x.C4 x.Ι x.fv) (A.c7 (A.at (Μ:=Ρ Kw x.Ι) (A.refl _)))) ?_;refine Ο.ca (hE _) ?_;rintro _ _⟨M,cap,fs,rfl,a5,rfl⟩;refine OC ?_;intros;refine KX.a8 aw ?_ ⟨M,cap,fs,rfl,a5.trans a2,rfl⟩;refine A.trans ?_ (A.c7 (A.c7 (gj x hF)));simp only[B1,bV];exact ag
