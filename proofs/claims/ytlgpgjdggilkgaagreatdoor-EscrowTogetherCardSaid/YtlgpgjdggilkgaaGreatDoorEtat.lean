/- Lemmas. -/
import Derived.Test.YtlgpgjdggilkgaaGreatDoorEtas
set_option linter.all false
set_option maxHeartbeats 4000000
namespace Go.Proofs.YtlgpgjdggilkgaaGreatDoor
section
open Go.V
attribute [local irreducible] Α GO GP δ ms Ev Ef C0 F CB GB V.Enters
def dK{φ ψ:Prop}(k:ψ)(h:Hid ψ->φ:=by intro k;first|refine GO.ci (f:=116) (Hid.out k)|refine δ.ci (f:=116) (Hid.out k)|refine GO.cf (f:=116) rfl (Hid.out k)|refine δ.cf (f:=116) rfl (Hid.out k)|refine KX.Sz (Hid.out k)):φ:=h ⟨k⟩
def YY{φ ψ:Prop}(k:ψ)(h:Hid ψ->φ:=by intro k;(repeat (first|refine ab ?_|intro B6|refine dK ?_));(repeat revert B6);exact Hid.out k):φ:=h ⟨k⟩
def zg{L:Η}(ad:OA)(n c:Nat)(I:ο)[F2 L ad h2 aL 3 I](hn:n=I.length)(hm:n<=9223372036854775807) :
  Τ Θ 54 #[ah ad n c] L (F3 (.bool (dB (ip I))) L):=by
 subst hn;refine Τ.bd ?_;by_cases hb:I.length<=4096
 case neg =>
  rw[bB (λq:ip I=>hb q.2)];refine YY ?_;intros;exact KX.en ⟨rfl,rfl⟩
 refine YY ?_;intros;refine Α.loop (α:=Nat) (λi=>i<=I.length/\∀k,k<i->a0 I[k]!) (λi=>[(0,ah ad I.length c),(8,ah ad I.length c),(9,J I.length),(10,J (i:Int))]) (λ_=>L) (λi=>I.length - i) 0 ⟨aC _,λk hk=>hD hk (fN k)⟩ aD (F.refl _) ?_;rintro i ⟨hi,a4⟩;by_cases a6:i<I.length
 case neg =>
  have M:∀x∈I,a0 x:=λx O=>by
   obtain⟨k,hk,e⟩:=List.mem_iff_getElem.1 O;have T:=a4 k D;rw[D7 hk,e] at T;exact T
  rw[bN (show ip I from⟨M,hb⟩)];refine YY ?_;intros;exact KX.en ⟨rfl,rfl⟩
 have a5:(i:Int).toNat=i:=bD i;have a2:=bA a6
 have a3:a0 I[i]!->∀k,k<i+1->a0 I[k]!:=λh k hk=>by
  by_cases e:k=i
  .rw[e];exact h
  .exact a4 k D
 have B:¬a0 I[i]!->¬ip I:=λh q=>h (q.1 _ a2);rw[show I[i]! = I[(i:Int).toNat]! by rw[a5]] at a3 B;by_cases o1:0<=I[(i:Int).toNat]!.1
 case neg =>
  rw[bB (B (λq=>o1 q.1))];refine YY ?_;intros;exact KX.en ⟨rfl,rfl⟩
 by_cases o2:0<=I[(i:Int).toNat]!.2.1
 case neg =>
  rw[bB (B (λq=>o2 q.2.1))];refine YY ?_;intros;exact KX.en ⟨rfl,rfl⟩
 by_cases o3:I[(i:Int).toNat]!.2.1<=1099511627776
 case neg =>
  rw[bB (B (λq=>o3 q.2.2.1))];refine YY ?_;intros;exact KX.en ⟨rfl,rfl⟩
 by_cases o4:1<=I[(i:Int).toNat]!.2.2
 case neg =>
  rw[bB (B (λq=>o4 q.2.2.2.1))];refine YY ?_;intros;exact KX.en ⟨rfl,rfl⟩
 by_cases o5:I[(i:Int).toNat]!.2.2<=1099511627776 - I[(i:Int).toNat]!.2.1
 case neg =>
  rw[bB (B (λq=>o5 q.2.2.2.2))];refine YY ?_;intros;rw[bB o5];refine YY ?_;intros;exact KX.en ⟨rfl,rfl⟩
 refine YY ?_;intros;rw[bN o5];refine YY ?_;intros;refine⟨i+1,⟨D,a3 ⟨o1,o2,o3,o4,o5⟩⟩,D,?_,by exact ak⟩;rw[bC i];exact aD
end
section
open Go.V
attribute [local irreducible] Α GO GP δ ms GF GE Ev Ef C0 F CB GB V.Enters
def kz(k:Nat)(fp tp:Int->Bool)(st:Bool)(m:A8):Prop :=
 (0<=m.a1/\m.a1<k)/\(1<=m.n/\m.n<=1099511627776)/\Qd m.Λ/\Qd m.to/\m.Λ≠m.to/\fp m.Λ=true/\tp m.to=true/\(if st=true then kj m.Β m.n else m.Β.length=0)
noncomputable instance (a b c Μ e):Decidable (kz a b c Μ e):=Classical.propDecidable _
abbrev Bg:=Ze [.ev 17,.ev 18,.ev 19,.ev 20,.ev 21,.ev 22,.ev 23,.ev 24,.ev 25,.ev 26,.ef 27,.ev 28,.ev 29,.ev 30,.ev 31,.ev 32,.ef 33,.ev 34,.ev 35,.ev 36,.ev 37,.ev 38,.ev 39,.ev 40,.ev 41,.ev 42,.ev 43,.ev 44,.ev 45,.ev 46,.ev 47,.ef 48,.ev 49,.ev 50,.ev 51,.ev 52,.ev 53,.ev 54,.ev 55,.ef 56,.ev 57,.ev 58]
abbrev Bf:List K4:=[.ev 0,.ev 1,.ef 2,.ev 3,.ev 4,.ev 5,.ev 7,.ev 8,.ef 6,.ev 9,.ev 10,.ev 11,.ev 12,.ev 13,.ev 16,.ev 17,.ef 14,.ef 15,.ev 18,.ev 19,.ev 20]
def Qx{φ ψ:Prop}(k:ψ)(h:Hid ψ->φ:=by intro k;(repeat (first|refine ab ?_|intro B6|refine Α.dr 93 1 Bg ?_|refine Α.dr 93 5 Bf ?_));(repeat revert B6);exact Hid.out k):φ:=h ⟨k⟩
def Fa{L R:Η}{b:Nat}{d:Int}{x:OB}[hp:PO L b Tp (cJ d x) R](ff tf wf:FuncId)(fp tp:Int->Bool)(st:Bool)(hf:UQ ff fp)(ht:UQ tf tp)(m:J3)[hr:F2 L m.pad h2 aL 3 m.m.Β](hm:m.m.Β.length<=9223372036854775807)(U:x.π.B5.length<=64) :
  Τ Θ 190 #[av b,bF (cu m),.agg #[.func (.func ff) #[] #[],.func (.func tf) #[] #[],.bool st,.func (.func wf) #[] #[]]] L (F3 (.bool (dB (kz x.π.B5.length fp tp st m.m))) L):=by
 obtain⟨⟨Λ,to,a1,n,Β⟩,pad,J2⟩:=m;dsimp only at hr hm;have B:∀{p:Prop},¬p->(kz x.π.B5.length fp tp st ⟨Λ,to,a1,n,Β⟩->p)->dB (kz x.π.B5.length fp tp st ⟨Λ,to,a1,n,Β⟩)=false:=λh q=>bB (λr=>h (q r));refine Τ.bd (args:=[av b,bF (cu ⟨⟨Λ,to,a1,n,Β⟩,pad,J2⟩),.agg #[.func (.func ff) #[] #[],.func (.func tf) #[] #[],.bool st,.func (.func wf) #[] #[]]]) ?_;by_cases K:0<=a1
 case neg =>
  refine Qx ?_;intros;exact KX.a8 aF ak ⟨by rw[B K (λh=>h.1.1)];rfl,rfl⟩
 by_cases T:a1<x.π.B5.length
 case neg =>
  refine Qx ?_;intros;exact KX.a8 aF ak ⟨by rw[B T (λh=>h.1.2)];rfl,rfl⟩
 by_cases h3:1<=n
 case neg =>
  refine Qx ?_;intros;exact KX.a8 aF ak ⟨by rw[B h3 (λh=>h.2.1.1)];rfl,rfl⟩
 by_cases h4:n<=1099511627776
 case neg =>
  refine Qx ?_;intros;exact KX.a8 aF ak ⟨by rw[B h4 (λh=>h.2.1.2)];rfl,rfl⟩
 refine Qx ?_;intros;refine δ.cr (pN Λ) ?_;by_cases h5:Qd Λ
 case neg =>
  rw[bB h5];refine Qx ?_;intros;exact KX.a8 aF ak ⟨by rw[B h5 (λh=>h.2.2.1)];rfl,rfl⟩
 rw[bN h5];refine Qx ?_;intros;refine δ.cr (pN to) ?_;by_cases h6:Qd to
 case neg =>
  rw[bB h6];refine Qx ?_;intros;exact KX.a8 aF ak ⟨by rw[B h6 (λh=>h.2.2.2.1)];rfl,rfl⟩
 rw[bN h6];by_cases h7:Λ=to
 case pos =>
  refine Qx ?_;intros;exact KX.a8 aF ak ⟨by rw[B (λq:Λ≠to=>q h7) (λh=>h.2.2.2.2.1)];rfl,rfl⟩
 refine Qx ?_;intros;refine δ.ef (Ef.f5 rfl rfl (hf Λ _)) ae ?_;rintro _ _⟨rfl,rfl⟩;cases h8:fp Λ with
 | false =>
  refine Qx ?_;intros;exact KX.a8 aF ak ⟨by rw[B (show ¬fp Λ=true by rw[h8];decide) (λh=>h.2.2.2.2.2.1)];rfl,rfl⟩
 | true =>
 refine Qx ?_;intros;refine δ.ef (Ef.f5 rfl rfl (ht to _)) ae ?_;rintro _ _⟨rfl,rfl⟩;cases h9:tp to with
 | false =>
  refine Qx ?_;intros;exact KX.a8 aF ak ⟨by rw[B (show ¬tp to=true by rw[h9];decide) (λh=>h.2.2.2.2.2.2.1)];rfl,rfl⟩
 | true =>
 cases st with
 | false =>
  have e:kz x.π.B5.length fp tp false ⟨Λ,to,a1,n,Β⟩↔Β.length=0:=⟨λh=>h.2.2.2.2.2.2.2,λh=>⟨⟨K,T⟩,⟨h3,h4⟩,h5,h6,h7,h8,h9,h⟩⟩;refine Qx ?_;intros;refine KX.a8 aF ak ⟨?_,rfl⟩;by_cases M:Β.length=0
  .rw[bN (D:((Β.length:Nat):Int)=0),bN (e.2 M)];rfl
  .rw[bB (D:¬((Β.length:Nat):Int)=0),bB (λh=>M (e.1 h))];rfl
 | true =>
 have e:kz x.π.B5.length fp tp true ⟨Λ,to,a1,n,Β⟩↔kj Β n:=⟨λh=>h.2.2.2.2.2.2.2,λh=>⟨⟨K,T⟩,⟨h3,h4⟩,h5,h6,h7,h8,h9,h⟩⟩;refine Qx ?_;intros;refine δ.cr (zg pad Β.length J2 Β rfl hm) ?_;by_cases c1:ip Β
 case neg =>
  rw[bB c1];refine Qx ?_;intros;exact KX.a8 aF ak ⟨by rw[bB (λh=>c1 (e.1 h).1)];rfl,rfl⟩
 rw[bN c1];refine Qx ?_;intros;refine δ.cr (lL pad Β.length J2 Β rfl c1.2 c1.1) ?_;by_cases c2:aY Β=n
 case neg =>
  refine Qx ?_;intros;exact KX.a8 aF ak ⟨by rw[bB (λh=>c2 (e.1 h).2.2)];rfl,rfl⟩
 refine Qx ?_;intros;refine δ.ca (qu pad Β.length J2 Β rfl (by have:=c1.2;omega) c1.1) ?_;rintro _ _⟨a3,zc,ys,rfl,a2,rfl⟩;obtain⟨s1,s2,s3,_⟩:=xx a2 c1.1;refine Qx ?_;intros;refine δ.cr (lI a3 (N5 ys).length zc (N5 ys) rfl (by have:=c1.2;omega) s1.ok) ?_;refine Qx ?_;intros;refine KX.a8 aF ak ⟨?_,rfl⟩
 have e2:kz x.π.B5.length fp tp true ⟨Λ,to,a1,n,Β⟩↔aY (N5 ys)=n:=by
  rw[e];constructor
  .rintro⟨_,q,_⟩;rw[s3.2 q,c2]
  .intro q;exact⟨c1,s3.1 (q.trans c2.symm),c2⟩
 rw[Mv e2];rfl
end
end Go.Proofs.YtlgpgjdggilkgaaGreatDoor
namespace Go.V
section
variable {P:Program}{N:Nat}{env:Env}{L:Η}{Ξ:F4}
def F.under{Ο:Η}{p:HP}(h:F L (p::L)):F (Ο++L) (p::(Ο++L)) :=
 (F.append (F.refl Ο) h).trans (F.perm dS)
end
end Go.V
namespace Go.Proofs.YtlgpgjdggilkgaaGreatDoor
section
open Go.V
attribute [local irreducible] Α GO GP δ ms GF GE Ev Ef C0 F CB GB V.Enters
def kF(k:Int):Int->Bool:=if k=0\/k=5 then(λn=>dB (n=0)) else if k=4\/k=10\/k=9 then(λ_=>true) else(λn=>dB (¬n=0))
def kT(k:Int):Int->Bool:=if k=1\/k=6 then(λn=>dB (n=0)) else if k=4\/k=10\/k=7 then(λ_=>true) else(λn=>dB (¬n=0))
def kS(k:Int):Bool:=if k=5\/k=7\/k=9 then true else false
def kW(k:Int):FuncId:=if k=4 then 273 else if k=10 then 274 else 271
abbrev MS(ff tf wf:FuncId)(st:Bool):Value:=.agg #[.func (.func ff) #[] #[],.func (.func tf) #[] #[],.bool st,.func (.func wf) #[] #[]]
def zb{n:Nat}{k:Int}{m:A8}(hk:0<=k/\k<=10):TW n k m↔kz n (kF k) (kT k) (kS k) m:=by
 have eF:kF k m.Λ=true↔(if k=0\/k=5 then m.Λ=0 else if k=4\/k=10\/k=9 then True else ¬m.Λ=0):=by
  unfold kF;by_cases a:k=0\/k=5
  .rw[Χ a,Χ a,dH,decide_eq_true_iff]
  .rw[Ν a,Ν a];by_cases b:k=4\/k=10\/k=9
   .rw[Χ b,Χ b];simp
   .rw[Ν b,Ν b,dH,decide_eq_true_iff]
 have eT:kT k m.to=true↔(if k=1\/k=6 then m.to=0 else if k=4\/k=10\/k=7 then True else ¬m.to=0):=by
  unfold kT;by_cases a:k=1\/k=6
  .rw[Χ a,Χ a,dH,decide_eq_true_iff]
  .rw[Ν a,Ν a];by_cases b:k=4\/k=10\/k=7
   .rw[Χ b,Χ b];simp
   .rw[Ν b,Ν b,dH,decide_eq_true_iff]
 have eS:(if kS k=true then kj m.Β m.n else m.Β.length=0)↔(if k=5\/k=7\/k=9 then kj m.Β m.n else m.Β.length=0):=by
  unfold kS;by_cases a:k=5\/k=7\/k=9
  .rw[Χ a,Χ rfl,Χ a]
  .rw[Ν a,Ν ae,Ν a]
 unfold TW kz rL;rw[eF,eT,eS];generalize kj m.Β m.n=ade;generalize m.Β.length=pl;unfold Qd;rcases (by omega:k=0\/k=1\/k=2\/k=3\/k=4\/k=5\/k=6\/k=7\/k=8\/k=9\/k=10) with rfl|rfl|rfl|rfl|rfl|rfl|rfl|rfl|rfl|rfl|rfl<;>simp<;>intros<;>omega
def KR{n:Nat}{k:Int}{m:A8}(hk:PF k)(h5:¬k=5)(h:TW n k m):m.Β=[]:=by
 have K:0<=k/\k<=10:=by unfold PF at hk;omega
 have T:=((zb K).1 h).2.2.2.2.2.2.2;rw[show kS k=false from Ν (by unfold PF at hk;omega),Ν ae] at T;exact cd T
noncomputable instance adf (a:List UN) (b:D6):Decidable (nH a b):=Classical.propDecidable _
def EZ{L:Η}(k:Int)(hk:PF k):Τ Θ 187 #[J k] L (λv Γ=>∃ff tf,v=.tuple #[MS ff tf (kW k) (kS k),.bool true]/\(UQ ff (kF k)/\UQ tf (kT k))/\Γ = L):=by
 rcases hk with rfl|rfl|rfl|rfl|rfl
 .refine Τ.bd (args:=[J 0]) ?_;refine Nd ?_;intros;exact KX.a8 (by exact C7.cell rfl bh (C7.tmp rfl (C7.nil))) ak ⟨_,_,rfl,⟨oo,kQ⟩,rfl⟩
 .refine Τ.bd (args:=[J 1]) ?_;refine Nd ?_;intros;exact KX.a8 (by exact C7.cell rfl bh (C7.tmp rfl (C7.nil))) ak ⟨_,_,rfl,⟨kQ,oo⟩,rfl⟩
 .refine Τ.bd (args:=[J 2]) ?_;refine Nd ?_;intros;exact KX.a8 (by exact C7.cell rfl bh (C7.tmp rfl (C7.nil))) ak ⟨_,_,rfl,⟨kQ,kQ⟩,rfl⟩
 .refine Τ.bd (args:=[J 5]) ?_;refine Nd ?_;intros;exact KX.a8 (by exact C7.cell rfl bh (C7.tmp rfl (C7.nil))) ak ⟨_,_,rfl,⟨oo,kQ⟩,rfl⟩
 .refine Τ.bd (args:=[J 6]) ?_;refine Nd ?_;intros;exact KX.a8 (by exact C7.cell rfl bh (C7.tmp rfl (C7.nil))) ak ⟨_,_,rfl,⟨kQ,oo⟩,rfl⟩
abbrev Be:=YZ [.ev 4,.ef 5,.ev 6,.ev 7,.ev 8,.ev 9,.ev 10,.ev 11,.ev 12,.ev 13,.ev 14,.ev 15,.ev 16,.ev 17,.ev 18,.ev 19,.ev 20,.ev 21,.ef 22,.ev 23,.ev 24,.ev 25,.ev 26,.ev 27,.ev 28,.ev 29,.ev 30,.ev 31,.ev 32,.ev 33,.ev 34,.ev 35,.ev 36]
def QT{φ ψ:Prop}(k:ψ)(h:Hid ψ->φ:=by intro k;(repeat (first|refine ab ?_|intro B6|refine Α.dr 70 2 Be ?_));(repeat revert B6);exact Hid.out k):φ:=h ⟨k⟩
def DH{L R:Η}{b:Nat}{d:Int}{x:OB}[hp:PO L b Tp (cJ d x) R][hr:F2 L x.K0 M0 eK 7 x.D9](s:M0)(a4:PF s.Δ)[c2:F2 L s.fH J3 cu 5 s.fe](b8:∀m∈s.fe,m.m.Β.length<=9223372036854775807)(hc:x.π.m.Ok)(hB:x.π.fG)(c3:x.D9.length<=65536)(c0:s.fe.length<=1000000)(b0:s.fe.length<=s.iI)(hI:vi s.K9)(h0:0<=SF x) :
  Τ Θ 132 #[av b,bF (eK s)] (Oz x.π::Nu s::L) (F3 (.bool (dB (gC x.π.m (SF x) s.m))) (Oz x.π::Nu s::L)):=by
 have b6:=hB.B5;have c1:s.m.fe.length=s.fe.length:=by simp[M0.m]
 have hA:=WE (c:=x.π.m) (now:=SF x) (s:=s.m);have M:∀{p:Prop},¬p->(gC x.π.m (SF x) s.m->p)->dB (gC x.π.m (SF x) s.m)=false:=λh q=>bB (λr=>h (q r));refine Τ.bd ?_;refine QT ?_;intros;rename_i b3;have hk:0<=s.Δ/\s.Δ<=10:=by unfold PF at a4;omega
 refine GO.ca (EZ s.Δ a4) ?_;rintro _ _⟨ff,tf,rfl,⟨b1,b9⟩,rfl⟩;refine QT ?_;intros;rename_i b5;refine δ.cr (pN s.RV) ?_;by_cases K:Qd s.RV
 case neg =>
  rw[bB K];refine QT ?_;intros;exact KX.a8 aF ak ⟨by rw[M K (λh=>(hA.1 h).2.1)];rfl,rfl⟩
 rw[bN K];by_cases T:0<=s.E
 case neg =>
  refine QT ?_;intros;exact KX.a8 aF ak ⟨by rw[M T (λh=>Int.le_trans h0 (hA.1 h).2.2.1.1)];rfl,rfl⟩
 by_cases h3:s.E<=1099511627776
 case neg =>
  refine QT ?_;intros;exact KX.a8 aF ak ⟨by rw[M h3 (λh=>(hA.1 h).2.2.1.2)];rfl,rfl⟩
 refine QT ?_;intros;refine δ.cr (Gy (b:=b) (d:=d) (x:=x) D) ?_;rw[show(x.D9.getLast?.map (·.E)).getD 0=SF x from rfl];by_cases h4:SF x<=s.E
 case neg =>
  refine QT ?_;intros;exact KX.a8 aF ak ⟨by rw[M h4 (λh=>(hA.1 h).2.2.1.1)];rfl,rfl⟩
 by_cases h5:1<=s.fe.length
 case neg =>
  refine QT ?_;intros;exact KX.a8 aF ak ⟨by rw[M h5 (λh=>by have:=(hA.1 h).2.2.2.1.1;omega)];rfl,rfl⟩
 by_cases h6:s.fe.length<=64
 case neg =>
  refine QT ?_;intros;exact KX.a8 aF ak ⟨by rw[M h6 (λh=>by have:=(hA.1 h).2.2.2.1.2;omega)];rfl,rfl⟩
 refine QT ?_;intros;refine Α.loop (α:=Nat) (λi=>i<=s.fe.length/\∀j:Nat,j<i->kz x.π.B5.length (kF s.Δ) (kT s.Δ) (kS s.Δ) s.fe[j]!.m) (λi=>[(0,av b),(3,av b3),(4,.bool false),(5,av b5),(53,ah s.fH s.fe.length s.iI),(54,J (s.fe.length:Int)),(55,J (i:Int))]) (λ_=>obj b5 JI [.func (.func ff) #[] #[],.func (.func tf) #[] #[],.bool (kS s.Δ),.func (.func (kW s.Δ)) #[] #[]]::obj b3 ji (eK s)::Oz x.π::Nu s::L) (λi=>s.fe.length - i) 0 ⟨aC _,λj h=>hD h D⟩ aD (F.refl _) ?_;rintro i ⟨hi,a9⟩;by_cases b7:i<s.fe.length
 case neg =>
  have b2:i=s.fe.length:=D;subst b2
  have a5:∀m∈s.fe,kz x.π.B5.length (kF s.Δ) (kT s.Δ) (kS s.Δ) m.m:=by
   intro m hm;obtain⟨j,hj,rfl⟩:=List.mem_iff_getElem.1 hm;have:=a9 j hj
   rw[D7 hj] at this;exact this
  have a3:∀m∈s.m.fe,TW x.π.m.B5.length s.m.Δ m:=by
   intro m hm;obtain⟨v,hv,rfl⟩:=H9 (show m∈s.fe.map J3.m from hm);exact(zb hk).2 (a5 v hv)
  have a6:dB (gC x.π.m (SF x) s.m)=dB (nH x.π.m.rules s.m):=by
   by_cases hw:nH x.π.m.rules s.m
   .rw[bN hw,bN (hA.2 ⟨hk,K,⟨h4,h3⟩,⟨D,D⟩,a3,hw⟩)]
   .rw[bB hw,bB (λh=>hw (hA.1 h).2.2.2.2.2)]
  rw[a6];refine QT ?_;intros;have a7:¬s.Δ=4:=by unfold PF at a4;omega
  have a2:¬s.Δ=10:=by unfold PF at a4;omega
  have e1:kW s.Δ=271:=by unfold kW;rw[Ν a7,Ν a2]
  have e2:dB (nH x.π.m.rules s.m)=dB (lc s.K9 s.OI):=by
   have e:nH x.π.m.rules s.m=lc s.K9 s.OI:=by unfold nH;exact(Ν a7).trans (Ν a2)
   by_cases hw:lc s.K9 s.OI
   .rw[bN hw,bN (e▸hw)]
   .rw[bB hw,bB (e▸hw)]
  rw[e1,e2];refine GO.ef (Ef.f5 rfl rfl (zq b s)) ae ?_;rintro _ _⟨rfl,rfl⟩;refine QT ?_;intros;exact KX.en ⟨rfl,rfl⟩
 have b4:(i:Int).toNat=i:=D;have B:=bA b7;refine Α.cL (Γ:=ξ aL 3 s.fe[i]!.pad s.fe[i]!.m.Β::obj b5 JI [.func (.func ff) #[] #[],.func (.func tf) #[] #[],.bool (kS s.Δ),.func (.func (kW s.Δ)) #[] #[]]::obj b3 ji (eK s)::Oz x.π::Nu s::L) ((F.at (Ο:=Nu s) (F.d8 (f:=Ns) B)).trans ak) ?_;refine QT ?_;intros;rw[b4];refine GO.cr (Fa (b:=b) (d:=d) (x:=x) ff tf (kW s.Δ) (kF s.Δ) (kT s.Δ) (kS s.Δ) b1 b9 s.fe[i]! (b8 _ B) b6) ?_;by_cases h7:kz x.π.B5.length (kF s.Δ) (kT s.Δ) (kS s.Δ) s.fe[i]!.m
 case neg =>
  rw[bB h7];refine QT ?_;intros;refine KX.a8 aF ak ⟨?_,rfl⟩;rw[M h7 (λh=>(zb hk).1 ((hA.1 h).2.2.2.2.1 s.fe[i]!.m (PB B)))];rfl
 rw[bN h7];refine QT ?_;intros;refine⟨i+1,⟨D,?_⟩,D,?_,by exact ak⟩
 .intro j hj;rcases Nat.lt_or_ge j i with h|h
  .exact a9 j h
  .obtain rfl:j=i:=D;exact h7
 .rw[bC i];exact aD
end
section
open Go.V
structure S5 where
 cs:Nat
 ct:Nat
 ci:Nat
 cr:Nat
 ν:List ((Int×Int)×h1)
 id:List (Int×Int)
 imp:List (Int×h1)
 ret:List (Int×h1)
 Κ:List Pv
 C3:OA
 F1:Nat
 Oi:List Int
 O2:OA
 O3:Nat
abbrev cV(b:Nat)(s:M0)(z:S5):τ:=[av b,J s.A,J s.Δ,J s.RV,J s.E,J s.K9,J s.OI,ah s.fH s.fe.length s.iI,.map (some z.cs),.map (some z.ct),.map (some z.ci),.map (some z.cr),ah z.C3 z.Κ.length z.F1,ah z.O2 z.Oi.length z.O3]
abbrev G9(b bc:Nat)(s:M0)(z:S5)(L:Η):Η :=
 obj bc Ww (cV b s z)::cS D5 h1.v z.cs z.ν::cS gm Q2 z.ct z.id::cS gm h1.v z.ci z.imp::cS gm h1.v z.cr z.ret::Ω ft 11 gX z.C3 z.F1 z.Κ::Ω (dJ .i64) 1 B7 z.O2 z.O3 z.Oi::Ψ (λp:(Int×Int)×h1=>G8 p.2) z.ν::Ψ Pm z.Κ::Ψ (λp:Int×h1=>G8 p.2) z.imp::Ψ (λp:Int×h1=>G8 p.2) z.ret::L
def NK{κ:Type}[DecidableEq κ](z x:List (κ×h1))(k:κ):h1:=(ζ z k).getD (fJ x k)
def vb{κ:Type}[DecidableEq κ]{z x:List (κ×h1)}(k:κ){L:Η}:F (Ψ (λp:κ×h1=>G8 p.2) z::Ψ (λp:κ×h1=>G8 p.2) x::L) (G8 (NK z x k)::Ψ (λp:κ×h1=>G8 p.2) z::Ψ (λp:κ×h1=>G8 p.2) x::L):=by
 unfold NK;cases h:ζ z k with
 | none=>exact(F.c7 (vU k)).trans F.swap
 | some s=>exact F.d8 (f:=λp:κ×h1=>G8 p.2) (x:=(k,s)) (bQ h)
def rI{κ:Type}[DecidableEq κ]{m:List (κ×h1)}{k:κ}{s:h1}{L:Η}:F (G8 s::Ψ (λp:κ×h1=>G8 p.2) m::L) (Ψ (λp:κ×h1=>G8 p.2) (cZ m k s)::L) :=
 (F.j6 (f:=λp:κ×h1=>G8 p.2) (λp=>tY p.2) (x:=(k,s)) (l:=m)).trans (F.g8 (l':=cZ m k s) tn)
def oI{κ:Type}[DecidableEq κ]{z x:List (κ×h1)}{k q:κ}{s:h1}:NK (cZ z k s) x q=if q=k then s else NK z x q:=by
 unfold NK;rw[cF];split<;>rfl
structure Qu (g:Int->h1) (l:ο):Prop where
 ok:∀f,S4 (g f).C8
 cap:∀f,(g f).C8.length<=(g f).cap
 len:∀f,(g f).C8.length<=l.length
 ov:∀f t,a0 t->t.1=f->OV (g f).C8 t=OV (Sm l f) t
def Ij{g:Int->h1}{l:ο}(h:Qu g l)(U:∀y∈l,a0 y){p:h2}(hp:a0 p):(∃y∈(g p.1).C8,¬apart y p)↔∃y∈Sm l p.1,Sn p y:=by
 rw[<-Ax (h.ok p.1).ok hp,h.ov p.1 p hp rfl,Ax (λy Y=>U y (TU.1 Y).1) hp];constructor
 .rintro⟨y,Y,hn⟩;have:=(TU.1 Y).2
  refine⟨y,Y,?_⟩;unfold apart at hn;unfold Sn;omega
 .rintro⟨y,Y,hn⟩;have:=(TU.1 Y).2
  refine⟨y,Y,?_⟩;unfold Sn at hn;unfold apart;omega
def KH{set:ο}(hs:S4 set){p:h2}(hp:a0 p):0<(Up [p] set).length↔∃y∈set,¬apart y p:=by
 rw[<-LW hs hp];have e:Up [p] set=(PG (OC set p)).foldl bH []:=by unfold Up;rw[Ju]
 rw[e]
 have hw:∀x∈PG (OC set p),1<=x.2.2:=λx O=>by
  obtain⟨q,hq,rfl⟩:=H9 O;have:=(Ge hs hp).1 q (List.mem_filter.1 hq).1
  unfold a0 at this;omega
 generalize PG (OC set p)=P at hw;cases P with
 | nil=>exact⟨λh=>hD h ae,λh=>hD rfl h⟩
 | cons x P =>
  have K:=hw x aA;have O:bH [] x=[x]:=by unfold bH;rw[Ν D,Ν (λq=>q.1 rfl)];rfl
  have B:∀(P l:ο),0<l.length->0<(P.foldl bH l).length:=by
   intro P;induction P with
   | nil=>intro l h;exact h
   | cons y P ih =>
    intro l h;refine ih _ ?_;unfold bH;split
    .exact h
    .split
     .rw[bT];exact h
     .rw[ay];omega
  refine⟨λ_ h=>(by cases h),λ_=>?_⟩;show 0<(P.foldl bH (bH [] x)).length;rw[O];exact B P [x] (by rw[aX];exact Nat.one_pos)
def Ik{g:Int->h1}{l:ο}(h:Qu g l)(U:∀y∈l,a0 y){p:h2}(hp:a0 p)(hn:¬ ∃y∈(g p.1).C8,¬apart y p){ys:ο}(Y:gW Q4 ((g p.1).C8++[p]) ys){ew : Int->h1}(K:(ew p.1).C8=N5 ys)(hc:(N5 ys).length<=(ew p.1).cap)(T:∀f,f≠p.1->ew f=g f):Qu ew (l++[p]):=by
 have M:∀x∈(g p.1).C8++[p],a0 x:=λx O=>by
  rcases J8 O with q|q
  .exact(h.ok p.1).ok x q
  .rw[F6 q];exact hp
 obtain⟨s1,s2,_,s4⟩:=xx Y M;have ha:L7 ((g p.1).C8++[p]):=Vn.2 ⟨xS (h.ok p.1).sl,λy hq=>Classical.byContradiction λr=>hn ⟨y,hq,r⟩⟩;have B:=h.len;refine⟨λf=>?_,λf=>?_,λf=>?_,λf t ht hf=>?_⟩
 .by_cases e:f=p.1
  .rw[e,K];exact s1
  .rw[T f e];exact h.ok f
 .by_cases e:f=p.1
  .rw[e,K];exact hc
  .rw[T f e];exact h.cap f
 .rw[ay,aX];by_cases e:f=p.1
  .rw[e,K];have:=B p.1
   rw[ay,aX] at s2;omega
  .rw[T f e];have:=B f
   omega
 .rw[IG];by_cases e:f=p.1
  .rw[e,K,s4 ha t ht,ge,je,Χ rfl,ge,je,h.ov p.1 t ht (hf.trans e)]
  .rw[T f e,Ν (λq=>e q.symm)];exact h.ov f t ht hf
def Ii:Qu (λ_=>⟨none,0,[]⟩) []:=⟨λ_=>⟨(λy h=>by cases h),.nil⟩,λ_=>an _,λ_=>an _,λ_ _ _ _=>rfl⟩
attribute [local irreducible] Α GO GP δ ms GF GE Ev Ef C0 F CB GB V.Enters
def Dn{L R1 R2:Η}{mz mx:Nat}{z x:List (Int×h1)}[B:QD L mz Int h1 gm h1.v z R1][M:QD L mx Int h1 gm h1.v x R2](f:Int) :
  Τ Θ 302 #[.map (some mz),.map (some mx),J f] L (F3 ((NK z x f).v) L):=by
 refine Τ.bd ?_;refine Nd ?_;intros;refine GO.ev (Ev.a8 rfl rfl) ae ?_;cases h:@List.lookup _ _ instBEqOfDecidableEq f z with
 | some k =>
  simp only[fm,Option.getD_some,Option.isSome_some];refine Nd ?_;intros;refine KX.a8 aF ak ⟨?_,rfl⟩;unfold NK ζ;rw[h];rfl
 | none =>
  simp only[ik,Option.getD_none,Option.isSome_none];refine Nd ?_;intros;refine GO.ev (Ev.j5 rfl rfl) ae ?_;rw[vd];refine Nd ?_;intros;refine KX.a8 aF ak ⟨?_,rfl⟩;unfold NK ζ;rw[h];rfl
