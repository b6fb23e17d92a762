/- Lemmas. -/
import Derived.Test.YtlgpgjdggilkgaaGreatDoorEdaq
import Derived.ChangeKeysEq
set_option linter.all false
namespace Go.Proofs.YtlgpgjdggilkgaaGreatDoor
section
open Go.V
attribute [local irreducible] Β Y GP δ vi Z Ef C0 E CB GB V.Enters
def dm(fl:List E3):π:=(fl.filter (λf=>decide (f.Ζ=5))).flatMap (·.Γ)
def jK(fl:List E3):π:=(fl.filter (λf=>decide (f.Ζ=9/\f.Ν=0))).flatMap (·.Γ)
def Rv(d:Int):π->π->Int
 | [],_=>0
 | p::ps,l=>if p.1 / 4294967296=d\/11<p.1 / 4294967296 then 1 else if ∃y∈RO l p.1,RP p y then 8 else Rv d ps (l++[p])
theorem Iw(l:π)(p:iK)(f:Int):RO (l++[p]) f=if p.1=f then RO l f++[p] else RO l f:=by
 grind [RO]
theorem qO{d:Int}{p:iK}{ps l:π}:Rv d (p::ps) l=if p.1 / 4294967296=d\/11<p.1 / 4294967296 then 1 else if ∃y∈RO l p.1,RP p y then 8 else Rv d ps (l++[p]):=rfl
end
section
open Go.V
def TT(fl:List E3):Prop:=∀f∈fl,(∀x∈f.Γ,a0 x)/\((f.Ζ=5\/(f.Ζ=9/\f.Ν=0))->L5 f.Γ)
theorem Vu{fl:List E3}{y:iK}:y∈dm fl↔∃f∈fl,f.Ζ=5/\y∈f.Γ:=by
 grind [dm]
def GH{fl:List E3}(h:TT fl):∀y∈dm fl,a0 y:=λy U=>by
 obtain⟨f,hf,_,U⟩:=Vu.1 U;exact(h f hf).1 y U
theorem Ht{fl:List E3}(h:TT fl){p:iK}(hp:a0 p):rP fl p↔∃y∈RO (dm fl) p.1,RP p y:=by
 unfold rP;constructor
 .rintro⟨f,hf,hk,hm⟩;obtain⟨y,U,I,Q⟩:=(zf (h f hf).1 ((h f hf).2 (.inl hk)) hp).1 hm;grind [Tr,Vu]
 .rintro⟨y,U,Q⟩;obtain⟨U,I⟩:=Tr.1 U;obtain⟨f,hf,hk,U⟩:=Vu.1 U;exact⟨f,hf,hk,(zf (h f hf).1 ((h f hf).2 (.inl hk)) hp).2 ah⟩
theorem tc{d:Int}{fl:List E3}(h:TT fl):∀(ps dn:π),(∀p∈ps,a0 p)->L5 ps->(∀Ξ∈dn,∀p∈ps,apart Ξ p)->Rv d ps (dm fl++dn)=TR d fl ps
 | [],_,_,_,_=>rfl
 | p::ps,dn,I,Q,h3=>by
  obtain⟨J,a2⟩:=List.pairwise_cons.1 Q;have hp:=I p ah;have ih:=tc (d:=d) h ps (dn++[p]) ah a2 ah
  have e:(∃y∈RO (dm fl++dn) p.1,RP p y)↔rP fl p:=by
   rw[Ht h hp];constructor
   .grind [Tr,apart,RP]
   .grind [Tr]
  grind [qO,V7,TR]
theorem KH{d:Int}{fl:List E3}(h:TT fl){ps:π}(I:∀p∈ps,a0 p)(Q:L5 ps):Rv d ps (dm fl)=TR d fl ps:=by
 have:=tc (d:=d) h ps [] I Q ah
 grind
end
section
open Go.V
attribute [local irreducible] Β Y GP δ vi Z Ef C0 E CB GB V.Enters
end
section
open Go.V
def Xm(d:Int)(fl:List E3):Prop:=∀k,k<fl.length->fl[k]!.r=d*4294967296+k/\1<=fl[k]!.n/\fl[k]!.n<=1099511627776
end
section
open Go.V
attribute [local irreducible] Β Y GP δ vi Z Ef C0 E CB GB V.Enters
def rM(k:Int)(m:B1):Prop :=
 if k=0 then m.Ν=0/\m.Γ.length=0 else if k=1\/k=6 then m.to=0/\m.Γ.length=0 else if k=2\/k=3\/k=8 then m.Ν≠0/\m.to≠0/\m.Γ.length=0
 else if k=5 then m.Ν=0/\kg m.Γ m.n else if k=7 then m.Ν≠0/\kg m.Γ m.n else if k=9 then m.to≠0/\kg m.Γ m.n else m.Γ.length=0
theorem Md{p q:Prop}[Decidable p][Decidable q](h:p↔q):dB p=dB q:=by
 grind
def Tt(k:Nat)(Ζ:Int)(m:B1):Prop:=(0<=m.a1/\m.a1<k)/\(1<=m.n/\m.n<=1099511627776)/\PO m.Ν/\PO m.to/\m.Ν≠m.to/\rM Ζ m
theorem sT{k:Nat}{Ζ:Int}{m:B1}(h:0<=Ζ/\Ζ<=10):Tt k Ζ m↔EC k (gW Ζ) m/\(Ζ≠4->Ζ≠10->iz Ζ m):=by
 have e:gW Ζ=true↔Ζ=5\/Ζ=7\/Ζ=9:=by unfold gW;rw[dF,decide_eq_true_iff]
 have hp:=@uo m.Γ m.n;unfold Tt EC rQ PO;by_cases h5:Ζ=5
 .grind [iz,rM]
 by_cases h7:Ζ=7
 .grind [iz,rM]
 by_cases h9:Ζ=9
 .grind [iz,rM]
 rw[Ο ah];unfold iz rM;by_cases h0:Ζ=0
 .grind
 rw[Ο h0,Ο (show ¬(Ζ=0\/Ζ=5) from λq=>q.elim h0 h5)];by_cases I:Ζ=1\/Ζ=6
 .rw[Ω I,Ω I];constructor
  .rintro⟨a,b,c,Ξ,f,g1,g2⟩;exact⟨⟨⟨a,b,f,D⟩,g2⟩,λ_ _=>g1⟩
  .rintro⟨⟨⟨a,b,f,c⟩,g2⟩,g1⟩;exact⟨a,b,D,D,f,g1 D D,g2⟩
 grind
def nE(rules:List Uk)(s:D7):Prop:=if s.Ζ=4 then Hr rules s.K8 s.Oi s.gN else if s.Ζ=10 then JG s else s.K8 = -1/\s.Oi=0
theorem Wc{c:B4}{now:Int}{s:D7}:gD c now s↔(0<=s.Ζ/\s.Ζ<=10)/\PO s.Rt/\(now<=s.B/\s.B<=1099511627776)/\(1<=s.gN.length/\s.gN.length<=64)/\(∀m∈s.gN,Tt c.B7.length s.Ζ m)/\nE c.rules s:=by
 unfold gD mX nE;constructor
 .grind [sT]
 grind [sT]
end
section
open Go.V
structure Sb (Ζ:Int) (m:B1):Prop where
 g:P6 m
 imp:Ζ=5->m.Ν=0
 st:Ζ=5\/Ζ=7\/Ζ=9->kg m.Γ m.n
theorem Gd{m:B1}{Ζ:Int}{k:Nat}(hk:0<=Ζ/\Ζ<=10)(h:Tt k Ζ m):Sb Ζ m:=by
 obtain⟨I,Q⟩:=(sT hk).1 h;obtain⟨h3,h4⟩:=I;have e:gW Ζ=true↔Ζ=5\/Ζ=7\/Ζ=9:=by unfold gW;rw[dF,decide_eq_true_iff]
 refine⟨⟨h3.2.1,h3.2.2.1,?_⟩,λh5=>?_,λhs=>?_⟩
 .grind
 .grind [iz]
 grind [uo]
theorem sg(fl:List E3)(f:E3):dm (fl++[f])=dm fl++(if f.Ζ=5 then f.Γ else[]):=by
 grind [dm]
theorem rY(fl:List E3)(f:E3):jK (fl++[f])=jK fl++(if f.Ζ=9/\f.Ν=0 then f.Γ else[]):=by
 grind [jK]
structure Ss (d:Int) (fl:List E3) (k:Nat) (W:Wk):Prop where
 g:Q8 d fl k W
 fa:TT (fl++W.Μ)
 fn:Xm d (fl++W.Μ)
 il:(dm (fl++W.Μ)).length<=k
 rl:(jK (fl++W.Μ)).length<=k
theorem uL{hy:Int->Bool}{s:D7}{W:Wk}{m:B1}(hm:Sb s.Ζ m)(h:s.Ζ=5\/(s.Ζ=9/\m.Ν=0)):Pw hy s W m=m.Γ:=by
 have h0:m.Ν=0:=by
  rcases h with h|h
  .exact hm.imp h
  .exact h.2
 grind [Pw]
theorem vD{d:Int}{fl:List E3}{hy:Int->Bool}{s:D7}{W:Wk}{k:Nat}{m:B1}(a2:0<=d)(h:Ss d fl k W)(hm:Sb s.Ζ m)(hk:k+m.Γ.length<=2000)(he:(ce d fl hy s W m).1=0):Ss d fl (k+m.Γ.length+1) (ce d fl hy s W m).2:=by
 obtain⟨g1,g2⟩:=nu a2 h.g hm.g hk he
 have A:NL d (fl++W.Μ) s W m=0:=by
  unfold ce at he;by_cases I:NL d (fl++W.Μ) s W m≠0
  .grind
  .omega
 obtain⟨p1,_⟩:=GS (hy:=hy) h.g hm.g hk A;have il:=h.il;have rl:=h.rl;refine⟨g1,?_,?_,?_,?_⟩
 .rw[g2,<-aF];intro f hf;rcases J4 hf with hf|hf
  .exact h.fa f hf
  .rw[GO hf];refine⟨p1,λhq=>?_⟩;show L5 (Pw hy s W m);rw[uL hm hq];exact(hm.st (by rcases hq with hq|hq;exact .inl hq;exact .inr (.inr hq.1))).2.1
 .rw[g2,<-aF];intro j hj;rw[aA,bh] at hj;by_cases J:j<(fl++W.Μ).length
  .have:=h.fn j J
   grind
  .obtain rfl:j=(fl++W.Μ).length:=D;rw[E7 ah,eJ D];simp only[Nat.sub_self,List.getElem_cons_zero];refine⟨?_,hm.g.n⟩;show fc d fl.length W=_;grind [fc]
 .grind [sg,gH,uL]
 grind [rY,gH,uL]
def ic(a i:Int):List B1->Nat
 | []=>0
 | m::O=>((if m.to=a/\m.a1=i then 1 else 0)+(if m.Ν=a/\m.a1=i then m.Γ.length else 0))+ic a i O
def qg(a i:Int):∀x y:List B1,ic a i (x++y)=ic a i x+ic a i y
 | [],y=>by show ic a i y=0+ic a i y;omega
 | m::x,y=>by
  have:=qg a i x y
  show((if m.to=a/\m.a1=i then 1 else 0)+(if m.Ν=a/\m.a1=i then m.Γ.length else 0))+ic a i (x++y)=((if m.to=a/\m.a1=i then 1 else 0)+(if m.Ν=a/\m.a1=i then m.Γ.length else 0))+ic a i x+ic a i y;omega
theorem IY{d:Int}{fl:List E3}{hy:Int->Bool}{W:Wk}{k:Nat}{m:B1}(h:Q8 d fl k W)(hm:P6 m)(a i:Int):(Np hy W m a i).length<=(W.ξ a i).length+(if m.Ν=a/\m.a1=i then m.Γ.length else 0):=by
 unfold Np;by_cases h0:m.Ν=0
 .grind
 rw[Ο h0];unfold PS;by_cases ha:a=m.Ν/\i=m.a1
 case neg =>
  grind
 rw[Ω ha,Ω ah];obtain⟨rfl,rfl⟩:=ha;unfold xw;by_cases hp:m.Γ=[]
 .rw[Ω hp];exact aO (oU _ _ _).2 D
 .rw[Ο hp];have hs:=h.ξ m.Ν m.a1;exact(Cf (⟨ax _,hs.ok,hs.TS⟩:QB (W.ξ m.Ν m.a1).length _ _) hm.D3).len
theorem GU{d:Int}{fl:List E3}{hy:Int->Bool}{s:D7}{W:Wk}{k:Nat}{m:B1}(h:Q8 d fl k W)(hm:P6 m)(he:(ce d fl hy s W m).1=0)(a i:Int):((ce d fl hy s W m).2.ξ a i).length<=(W.ξ a i).length+ic a i [m]:=by
 have h9:=IY (hy:=hy) h hm a i;have e1:ic a i [m]=((if m.to=a/\m.a1=i then 1 else 0)+(if m.Ν=a/\m.a1=i then m.Γ.length else 0))+0:=rfl;rw[e1];unfold ce at he ⊢;by_cases I:NL d (fl++W.Μ) s W m≠0
 .grind
 rw[Ο I] at he ⊢;by_cases Q:dt W m>1099511627776
 .grind
 rw[Ο Q] at he ⊢;by_cases h3:m.to=0
 .rw[Ω h3];grind
 rw[Ο h3] at he ⊢;by_cases h4:4096<=(Np hy W m m.to m.a1).length
 .grind
 rw[Ο h4];grind [PS,qG]
structure St (k:Nat) (S:Τ):Prop where
 g:RM k S
 fa:TT S.Μ
 fn:Xm S.D9 S.Μ
 il:(dm S.Μ).length<=k
 rl:(jK S.Μ).length<=k
def xo{k:Nat}{S:Τ}(h:St k S):Ss S.D9 S.Μ k (Nk S):=by
 have e:S.Μ++(Nk S).Μ=S.Μ:=aJ _;refine⟨tN h.g,?_,?_,?_,?_⟩
 .rw[e];exact h.fa
 .rw[e];exact h.fn
 .rw[e];exact h.il
 .rw[e];exact h.rl
def zJ{d:Int}{fl:List E3}{hy:Int->Bool}{s:D7}(J:0<=d):∀{O:List B1} {W:Wk} {k:Nat},Ss d fl k W->(∀m∈O,Sb s.Ζ m)->k+C6 O<=2000->(cQ d fl hy s W O).1=0->Ss d fl (k+C6 O) (cQ d fl hy s W O).2/\∀a i,((cQ d fl hy s W O).2.ξ a i).length<=(W.ξ a i).length+ic a i O
 | [],_,_,h,_,_,_=>⟨h,λ_ _=>ax _⟩
 | m::O,W,k,h,hm,hk,he=>by
  have e:cQ d fl hy s W (m::O)=if(ce d fl hy s W m).1=0 then cQ d fl hy s (ce d fl hy s W m).2 O else((ce d fl hy s W m).1,W):=rfl;have ek:C6 (m::O)=(m.Γ.length+1)+C6 O:=rfl;rw[e] at he ⊢;by_cases I:(ce d fl hy s W m).1=0
  .rw[Ω I] at he ⊢;have A:=hm m au;obtain⟨i1,i2⟩:=zJ J (O:=O) (vD J h A D I) (λx M=>hm x (az _ M)) D he;refine⟨by rw[ek,<-dc,<-dc];exact i1,λa i=>?_⟩;have g1:=i2 a i;have g2:=GU h.g A.g I a i;have g3:ic a i (m::O)=ic a i [m]+ic a i O:=qg a i [m] O;omega
  .rw[Ο I] at he;exact iJ he I
theorem mE{c:B4}{now:Int}{s:D7}(h:gD c now s):∀m∈s.gN,Sb s.Ζ m:=by grind [Gd,Wc]
theorem CQ{k:Nat}{S:Τ}{s:D7}(h:St k S)(hk:k+C6 s.gN<=2000):St (k+C6 s.gN) (bN S s)/\∀a i,((bN S s).ξ a i).length<=(S.ξ a i).length+ic a i s.gN:=by
 have g0:=KQ h.g hk;have il:=h.il;have rl:=h.rl;by_cases he:(E2 S s).1=0
 case neg =>
  have e:bN S s=S:=Ο he;rw[e] at g0 ⊢;exact⟨⟨g0,h.fa,h.fn,D,D⟩,λa i=>D⟩
 have e:bN S s=fF S s:=Ω he;rw[e] at g0 ⊢;by_cases I:65536<=S.Ev.length
 .grind [E2]
 by_cases Q:gD S.υ S.now s
 case neg =>
  grind [E2]
 have e:E2 S s=cQ S.D9 S.Μ (fW S.υ) (s.at (cS S)) (Nk S) s.gN:=by unfold E2;rw[Ο I,Ο (λq=>q Q)]
 rw[e] at he;obtain⟨g1,g2⟩:=zJ (O:=s.gN) (s:=s.at (cS S)) h.g.D9.1 (xo h) (mE Q) hk he;rw[<-e] at g1 g2;exact⟨⟨g0,g1.fa,g1.fn,g1.il,g1.rl⟩,g2⟩
end
end Go.Proofs.YtlgpgjdggilkgaaGreatDoor
namespace Go.V
section
variable {P:Program}{N:Nat}{ops:Array Oper}{done:List Nat}{y5:List K3}{E8:List PE}{env:Env}{L:Ι}{Ρ:F8}
def GP.Vv{φ:Prop}(h:∀θ R w,Sat θ (L++R) w->φ)(k:φ->GP P N ops done y5 E8 env L Ρ):GP P N ops done y5 E8 env L Ρ:=λhK hp hs A θ aa a w S i J a2=>let ⟨_,_,_,s⟩:=i;k (h θ _ w s) hK hp hs A θ aa a w S i J a2
def δ.Vv{s:K3}{A:Option Tmp}{op:Op}{ty:TypeId}{φ:Prop}(h:∀θ R w,Sat θ (L++R) w->φ)(k:φ->δ P N ops done s y5 A op ty E8 env L Ρ):δ P N ops done s y5 A op ty E8 env L Ρ:=λpos af g I Q=>GP.Vv h (λhφ=>k hφ pos af g I Q)
end
end Go.V
namespace Go.Proofs.YtlgpgjdggilkgaaGreatDoor
section
open Go.V
attribute [local irreducible] Β Y GP δ vi Z Ef C0 E CB GB V.Enters
structure TU (s:L9):Prop where
 inp:RN s
 cap:s.gN.length<=s.iM
 form:(s.gN.length<=1/\∀m∈s.gN,m.m.Γ.length<=1)\/(s.gN.length<=3/\∀m∈s.gN,m.m.Γ=[])
 D3:(∀m∈s.m.gN,m.Ν≠m.to)->∀a i,ic a i s.m.gN<=1
def zd:∀{O:List B1},(∀m∈O,m.Γ=[])->C6 O=O.length
 | [],_=>rfl
 | m::O,h=>by
  have I:=zd (O:=O) (λx M=>h x (az _ M));have Q:m.Γ.length=0:=by rw[h m au];rfl
  show(m.Γ.length+1)+C6 O=O.length+1;omega
theorem TU.k{s:L9}(h:TU s):C6 s.m.gN<=3:=by
 have T:s.m.gN.length=s.gN.length:=ak _;rcases h.form with⟨I,Q⟩|⟨I,Q⟩
 .show C6 (s.gN.map J5.m)<=3;match hm:s.gN,I,Q with
  | [],_,_=>exact aD _
  | [m],_,Q =>
   have:=Q m ah
   show(m.m.Γ.length+1)+0<=3;omega
 .rw[zd (λm hm=>by
   obtain⟨u,hu,rfl⟩:=H8 hm;exact Q u hu),T]
  exact I
theorem se{O:List J5}(h:∀m∈O,m.m.Γ=[]):(∀m∈O,m.m.Γ.length<=9223372036854775807)/\(∀m∈O,m.m.Γ.length<=m.J3)/\∀m∈O,∀p∈m.m.Γ,p.1<=9223372036854775807 :=
 by grind
def UQ(s:Int):Int×Int:=if s<0 then(0,10) else if 1099511627776<s then(0,4) else(s,0)
def Up(m:B1):Int:=(if m.Ν=0 then m.n else 0) - (if m.to=0 then m.n else 0)
structure Wd (B7:Int) (t:List Int):Prop where
 len:t.length=B7.toNat
 bd:∀i,i<t.length->0<=t[i]!/\t[i]!<=1099511627776
theorem KV{s:Int}(h:(UQ s).2=0):(UQ s).1=s/\0<=s/\s<=1099511627776:=by
 grind [UQ]
theorem Wd.set{B7:Int}{t:List Int}(h:Wd B7 t){k:Nat}{s:Int}(hs:(UQ s).2=0):Wd B7 (t.set k (UQ s).1):=by
 obtain⟨e,b1,b2⟩:=KV hs;refine⟨by rw[bU];exact h.len,λi hi=>?_⟩;rw[bU] at hi;rw[e,E7 ah,List.getElem_set];split
 .omega
 .have:=h.bd i hi
  grind
end
end Go.Proofs.YtlgpgjdggilkgaaGreatDoor
namespace Go.V
def nU{P:Program}{ζ:TypeId}(h:P.underlying ζ=some (.int .i64)):∀w,(isAgg ζ).run P w=.ok false w:=λw=>by simp[isAgg,run_underlying h]
def yd{P:Program}{Ρ ζ:Nat}[h:TL P Ρ 2 ζ 1][he:Qv P ζ .i64](a b:Int×Int)(w:World):(Op.equal Ρ (D6 a) (D6 b)).run P w=.ok (decide (a=b)) w:=by
 have hE:=he.under;have hi:=h.size;cases M:P.info? ζ with
 | none=>rw[M] at hi;cases hi
 | some i =>
  have hc:P.cellsOf ζ=1:=by
   rw[M] at hi;simp[Program.cellsOf,M] at hi ⊢;exact hi
  obtain⟨J,a2⟩:=a;obtain⟨b1,b2⟩:=b;have hq:=run_equalIn_array (P:=P) (w:=w) 9999 #[K J,K a2] #[K b1,K b2] h.under M;have e0:∀(c Ξ:Int) (w:World),(part ζ #[Value.int .i64 c,Value.int .i64 Ξ] 0).run P w=.ok (K c) w:=λc Ξ w=>gG (nU hE) rfl;have e1:∀(c Ξ:Int) (w:World),(part ζ #[Value.int .i64 c,Value.int .i64 Ξ] 1).run P w=.ok (K Ξ) w:=λc Ξ w=>gG (nU hE) rfl;show(Op.equalIn (9999+1) Ρ (.agg #[K J,K a2]) (.agg #[K b1,K b2])).run P w=_;rw[hq,hc];have q:=λc Ξ=>run_equalIn_int (P:=P) w 9998 ζ .i64 .i64 c Ξ hE;rw[show List.range 2=[0,1] from rfl];simp only[Op.eqItems,Sem.run_bind,Nat.zero_mul,Nat.one_mul,e0,e1,Result.andThen_ok,q];by_cases I:J=b1
  .by_cases Q:a2=b2
   .simp[I,Q,e1,q]
   .simp[I,Q,e1,q]
  .simp[I]
theorem Su{P:Program}{Ρ ζ:Nat}[h:TL P Ρ 2 ζ 1][he:Qv P ζ .i64]:Qx P Ρ D6 where
 inj a b h:=by
  simp[D6] at h;exact Prod.ext h.1 h.2
 check e k w:=by
  have hE:=he.under;have e0:∀(c Ξ:Int) (w:World),(part ζ #[Value.int .i64 c,Value.int .i64 Ξ] 0).run P w=.ok (K c) w:=λc Ξ w=>gG (nU hE) rfl;have e1:∀(c Ξ:Int) (w:World),(part ζ #[Value.int .i64 c,Value.int .i64 Ξ] 1).run P w=.ok (K Ξ) w:=λc Ξ w=>gG (nU hE) rfl;have e2:∀(m:Nat) (c:Int) (w:World),(Instr.checkKey e (m+1) ζ (K c)).run P w=.ok () w:=λm c w=>by simp[Instr.checkKey,run_underlying hE]
  have A:∀m,(Instr.checkKey e (m+1+1) Ρ (.agg #[K k.1,K k.2])).run P w=.ok () w:=by
   intro m;rw[Instr.checkKey];simp only[Sem.run_bind,run_underlying h.under,Result.andThen_ok];simp[Std.Legacy.Range.forIn_eq_forIn_range',Std.Legacy.Range.size,List.range'_succ,h.QL,e0,e1,e2]
  exact A 9998
 bits k:=by
  have:∀n,Instr.sameBits (n+1) (D6 k) (D6 k)=true:=λn=>by simp[Instr.sameBits,D6]
  exact this 9999
 find k es ks w he':=by
  have hq:∀a b:Int×Int,(Op.equal Ρ (D6 a) (D6 b)).run P w=.ok (decide (a=b)) w:=λa b=>yd a b w;have Q:=lE (P:=P) (Ρ:=Ρ) (w:=w) hq k es ks 0 he';simp only[Instr.findKey,Sem.run_bind,run_underlying h.under,Result.andThen_ok];cases es with
  | nil =>
   cases ks with
   | nil=>simp[Instr.findNow]
   | cons _ _=>simp at he'
  | cons x es =>
   cases ks with
   | nil=>simp at he'
   | cons q ks =>
    have hn:Instr.findNow (.array 2 ζ) (D6 k) (x::es) 0=none:=by simp[Instr.findNow,Instr.sameNow]
    rw[hn];simp only[dv] at Q;exact Q
end Go.V
namespace Go.Proofs.YtlgpgjdggilkgaaGreatDoor
section
open Go.V
attribute [local irreducible] Β Y GP δ vi Z Ef C0 E CB GB V.Enters
def We(f:Int->Int->Int)(a i n:Int):Int->Int->Int:=λx y=>if x=a/\y=i then n else f x y
structure Wf (f:Int->Int->Int):Prop where
 bd:∀a i,0<=f a i/\f a i<=1099511627776
 zero:∀i,f 0 i=0
theorem Wf.Pr{f:Int->Int->Int}(h:Wf f){a i n:Int}(ha:a≠0)(I:0<=n)(Q:n<=1099511627776):Wf (We f a i n):=by
 refine⟨λx y=>?_,λy=>?_⟩
 .unfold We;split
  .omega
  .exact h.bd x y
 .unfold We;rw[Ο D];exact h.zero y
def Uq(s:D7)(m:B1):π:=if s.Ζ=5 then m.Γ else[]
def Ur(s:D7)(m:B1):π:=if s.Ζ=9/\m.Ν=0 then m.Γ else[]
end
end Go.Proofs.YtlgpgjdggilkgaaGreatDoor
namespace Go.V
section
variable {P:Program}{L:Ι}{env:Env}{ty:TypeId}
def Z.v8{t:TypeId}{x hi mx:Operand}{ad:OA}{n c ζ sz bb:Nat}{z:χ}{k k' : IntKind}{j:Int}[ht:M9 P t ζ sz bb z](M:bG env x=some (.slice ad n c))(hh:bG env hi=some (.int k j))(hm:bG env mx=some (.int k' j))(h0:0<=j)(I:j<=c):Z P L env (.slice t x none (some hi) (some mx)) ty (.slice ad j.toNat j.toNat) :=
 Z.mk (λ_ _ _ w ea _ _ _ _ _=>by
  obtain⟨ii,z0,i1,i2,i3,i4,i5⟩:=ht.Γ;have Q:j<=(j.toNat:Int):=D;simp[execOp,aI ea M,aI ea hh,aI ea hm,Instr.sliceAt,Instr.slice,run_underlying ht.under,Instr.sliceBounds,Instr.sliceBound,asIntOf,h0,I,Q,sizeOf,typeInfo,i1];rw[Ω D];cases ad<;>simp[Addr.add])
end
end Go.V
namespace Go.Proofs.YtlgpgjdggilkgaaGreatDoor
section
open Go.V
attribute [local irreducible] Β Y GP δ vi Z Ef C0 E CB GB V.Enters
def rb{L:Ι}(ad:OA)(n c:Nat)(h:n<=c):Υ Λ 304 #[ae ad n c] L (F7 (ae ad n n) L):=by
 refine Υ.bd ?_;refine ML ?_;intros;refine Y.ev (Z.v8 rfl rfl rfl D D) ac ?_;rw[bB];refine ML ?_;intros;exact KX.en ⟨rfl,rfl⟩
theorem GI{d:Int}{nf:Nat}{hy:Int->Bool}{s:D7}{W:Wk}{m:B1}(hm:Sb s.Ζ m)(fl:List E3):dm (fl++[gH d nf hy s W m])=dm fl++Uq s m/\jK (fl++[gH d nf hy s W m])=jK fl++Ur s m:=by
 grind [sg,rY,Uq,Ur,gH,uL]
end
end Go.Proofs.YtlgpgjdggilkgaaGreatDoor
namespace Go.V
class Wg (P:Program) (an:Nat) (ks:outParam (List Bool)):Prop where
 under:P.underlying an=some (.struct (P.fieldsOf an))
 free:P.stoodInHeld an=false
 guard:P.eqGuardType P.depth an=false
 Ue : (P.fieldsOf an).toList.map (λf => (f.name == "_", f.offset, P.underlying f.type)) = (List.range ks.length).map λi => (false, i, some (if ks[i]! then TypeDesc.bool else .int .i64))
def nS:Value->Option Bool
 | .bool _=>some true
 | .int .i64 _=>some false
 | _=>none
def EM{v:Value}(h:nS v=some true):∃b,v=.bool b:=by
 unfold nS at h;split at h
 .exact⟨_,rfl⟩
 .cases h
 .cases h
def BM{v:Value}(h:nS v=some false):∃n,v=K n:=by
 unfold nS at h;split at h
 .cases h
 .exact⟨_,rfl⟩
 .cases h
def Xn {P : Program} {Ξ : Nat} {cs : Array Value} {w : World} : ∀ (fs : List Field), (∀ f ∈ fs, f.name ≠ "_" /\ ((P.underlying f.type = some .bool /\ ∃ x, cs[f.offset]? = some (.bool x)) \/ (P.underlying f.type = some (.int .i64) /\ ∃ x, cs[f.offset]? = some (K x)))) -> (Op.eqFields (Ξ + 1) cs cs fs).run P w = .ok true w
 | [],_=>by simp[Op.eqFields]
 | f::fs,h=>by
  have ih:=Xn (Ξ:=Ξ) (w:=w) fs (λg hg=>h g (az _ hg));obtain⟨hn,Q⟩:=h f au;rcases Q with⟨hu,x,M⟩|⟨hu,x,M⟩
  .have hf:∀w,(isAgg f.type).run P w=.ok false w:=λw=>by simp[isAgg,run_underlying hu]
   simp only[Op.eqFields,Ω hn,Sem.run_bind,gG hf M,Result.andThen_ok,run_equalIn_bool' w Ξ f.type x x hu,beq_self_eq_true,Bool.not_true,em,if_false,ih]
  .have hf:∀w,(isAgg f.type).run P w=.ok false w:=λw=>by simp[isAgg,run_underlying hu]
   simp only[Op.eqFields,Ω hn,Sem.run_bind,gG hf M,Result.andThen_ok,run_equalIn_int w Ξ f.type .i64 .i64 x x hu,beq_self_eq_true,Bool.not_true,em,if_false,ih]
def yc{P:Program}{an:Nat}{ks:List Bool}[h:Wg P an ks]{w:World}{Ξ:Nat}{cs:χ}(hk:cs.map nS=ks.map some) :
  (Op.equalIn (Ξ+2) an (.agg cs.toArray) (.agg cs.toArray)).run P w=.ok true w:=by
 rw [run_equalIn_struct w (Ξ+1) an _ _ h.under h.free];refine Xn (P.fieldsOf an).toList (λf hf=>?_);have h6 : (f.name == "_", f.offset, P.underlying f.type) ∈ (List.range ks.length).map λi => (false, i, some (if ks[i]! then TypeDesc.bool else .int .i64)) := by rw [<- h.Ue]; exact O6 hf
 obtain⟨i,hi,he⟩:=H8 h6;have hi:=List.mem_range.1 hi;simp only[Prod.mk.injEq] at he;obtain⟨e1,e2,e3⟩:=he;have hcl:cs.length=ks.length:=by have:=congrArg List.length hk;simpa using this
 have hki:nS cs[i]=some ks[i]:=by
  have h7:(cs.map nS)[i]? = (ks.map some)[i]?:=by rw[hk]
  rw[List.getElem?_map,List.getElem?_map,List.getElem?_eq_getElem D,List.getElem?_eq_getElem hi] at h7;simpa using h7
 have Zd:ks[i]! = ks[i]:=by rw[List.getElem!_eq_getElem?_getD,List.getElem?_eq_getElem hi];rfl
 have Xo:cs.toArray[f.offset]? = some cs[i]:=by rw[<-e2];simp[show i<cs.length by omega]
 rw[Zd] at e3;refine⟨by simpa using e1.symm,?_⟩;cases hb:ks[i] with
 | true =>
  rw[hb] at hki e3;obtain⟨x,M⟩:=EM hki;exact .inl ⟨e3.symm,x,by rw[Xo,M]⟩
 | false =>
  rw[hb] at hki e3;obtain⟨x,M⟩:=BM hki;exact .inr ⟨e3.symm,x,by rw[Xo,M]⟩
def Z.A0{P:Program}{L:Ι}{env:Env}{ty:TypeId}{t yt:TypeId}{x y:Operand}{ks:List Bool}[h:Wg P t ks]{cs:χ}(M:bG env x=some (.agg cs.toArray))(U:bG env y=some (.agg cs.toArray))(hk:cs.map nS=ks.map some) :
  Z P L env (.binOp .neq t x y yt) ty (.bool false) :=
 Z.mk (λθ R _ w ea s _ _ _ _=>by
  have I:=yc (P:=P) (an:=t) (w:=w) (Ξ:=9998) hk;simp[execOp,aI ea M,aI ea U,run_eqGuard_agg w .neq t x y _ _ h.guard,run_neq_struct,I])
end Go.V
namespace Go.Proofs.YtlgpgjdggilkgaaGreatDoor
open Go.V
def wI(S:Τ)(s:D7):(bN S s).υ=S.υ:=by unfold bN;split<;>rfl
theorem sr(S:Τ)(s:D7):∃z,(bN S s).Μ=S.Μ++z:=by
 unfold bN;split
 .exact⟨_,rfl⟩
 .exact⟨[],ah⟩
def Gw{d:Int}(h:0<=d/\d<12)(c:B4):St 0 (L1 d c) where
 g:={
  D9:=h
  Ev:=aD _
  Μ:=ax _
  ξ:=λ_ _=>⟨ax _,(λ_ q=>iJ q aH),List.Pairwise.nil⟩
  iL:=λ_=>⟨by show -(((0:Nat):Int)*1099511627776)<=0;omega,by show(0:Int)<=1099511627776;omega⟩
  fl:=λ_ q=>iJ q aH }
 fa:=λ_ q=>iJ q aH
 fn:=λ_ q=>iJ q (Nat.not_lt_zero _)
 il:=ax _
 rl:=ax _
end Go.Proofs.YtlgpgjdggilkgaaGreatDoor
namespace Go.V
section tri
variable {P:Program}{f:FuncId}{args:Array Value}{L:Ι}{post post' : Value->Ι->Prop}
def Υ.d9{α:Type}{g:α->Ι}(he:Enters P f)(h:∀x,Υ P f args (g x++L) post):Υ P f args (hex (λx=>cw (g x))::L) post :=
 ⟨he,λθ R w s=>by
  obtain⟨x,s1⟩:=Sat.Te (show Sat θ (hex (λx=>cw (g x))::(L++R)) w from s);exact(h x).calls θ R w (by rw[aF];exact s1.Qd)⟩
def Υ.d8{φ:Prop}(he:Enters P f)(h:φ->Υ P f args L post):Υ P f args (ee φ::L) post :=
 ⟨he,λθ R w s=>(h (Sat.Td (show Sat θ (ee φ::(L++R)) w from s))).calls θ R w s.tail⟩
def Υ.Q2(h:Υ P f args L post)(hp:∀v Ε,post v Ε->∃Rk,post' v Rk/\E Ε Rk):Υ P f args L post' :=
 ⟨h.enters,λθ R w s=>(h.calls θ R w s).mono λ_ _ ⟨v,Ε,a,b,c⟩=>by
  obtain⟨Rk,I,Q⟩:=hp _ _ b;exact⟨v,Rk,a,I,Q θ R _ c⟩⟩
def Υ.f7{φ:Prop}(he:Enters P f)(hφ:∀θ R w,Sat θ (L++R) w->φ)(h:φ->Υ P f args L post):Υ P f args L post :=
 ⟨he,λθ R w s=>(h (hφ θ R w s)).calls θ R w s⟩
end tri
end Go.V
namespace Go.Proofs.YtlgpgjdggilkgaaGreatDoor
section
open Go.V
inductive PK (d:Int) (c:B4):Τ->Prop
 | zero:PK d c (L1 d c)
 | post {S:Τ} {s:D7}:PK d c S->(E2 S s).1=0->PK d c (bN S s)
theorem jf{S:Τ}{s:D7}(h:(E2 S s).1=0):gD S.υ S.now s:=by
 grind [E2]
def TU.at{s:L9}(h:TU s)(r:Int):TU (s.at r):=⟨⟨h.inp.kd,h.inp.len,h.inp.K8,h.inp.Γ,h.inp.cap,h.inp.bd⟩,h.cap,h.form,h.D3⟩
theorem An{α:Type}(f:α->HP)(l:List α):η f l=η (λx:HP=>x) (l.map f):=by
 grind [η,O6]
theorem E.l8{α:Type}{f:α->HP}{l l' : List α}(h:∀y∈l',∃x∈l,f y=f x){L:Ι}:E (η f l::L) (η f l'::L):=by
 rw[An f l,An f l'];refine E.g9 (f:=λx:HP=>x) λx M=>?_;grind
structure TW (s:L9):Prop where
 inp:RN s
 cap:s.gN.length<=s.iM
 k:C6 s.m.gN<=4
def vw:∀O:List B1,O.length<=C6 O
 | []=>ax _
 | m::O=>by
  have:=vw O
  show O.length+1<=(m.Γ.length+1)+C6 O;omega
def TW.len{s:L9}(h:TW s):s.gN.length<=4:=by
 have I:=vw s.m.gN;have Q:=h.k;have h3:s.m.gN.length=s.gN.length:=ak _;omega
def TU.sp{s:L9}(h:TU s):TW s:=⟨h.inp,h.cap,by have:=h.k;omega⟩
structure Xp (O ms' : List J5):Prop where
 Ze:∀y∈ms',∃x∈O,y.pad=x.pad/\y.m.Γ=x.m.Γ/\y.J3=x.J3
theorem Xp.cM{O A : List J5}(h:Xp O A){L:Ι}:E (η Na O::L) (η Na A::L) :=
 E.l8 λy U=>by
  obtain⟨x,M,e1,e2,_⟩:=h.Ze y U;grind
def Xq(ss A : List L9):Prop:=A = ss\/∃k s',k<ss.length/\TW s'/\A = ss.set k s'
theorem Xq.len{ss A : List L9}(h:Xq ss A):A.length=ss.length:=by
 rcases h with rfl|⟨k,s',_,_,rfl⟩
 .rfl
 grind
def TW.at{s:L9}(h:TW s)(r:Int):TW { s with r:=r }:=⟨⟨h.inp.kd,h.inp.len,h.inp.K8,h.inp.Γ,h.inp.cap,h.inp.bd⟩,h.cap,h.k⟩
attribute [local irreducible] Β Y GP δ vi GF GE Z Ef C0 E CB GB V.Enters
end
section
open Go.V
def E.n8{Φ hx:HP}{L:Ι}:E (Φ::hx::L) (cw [Φ,hx]::L):=λθ R w s=>Sat.a8 (Φ:=[Φ,hx]) s
def SV(f:O7):HP:=cw [μ aK 3 I5 f.pad f.J3 f.m.Γ,μ (eU .i64) 1 C3 f.gi f.iM f.m.made]
def Oq:O7:=⟨⟨0,0,0,0,0,0,0,0,0,[],[]⟩,none,0,none,0⟩
def Ja{f:O7}{L:Ι}:E (OZ f::L) (τ aK 3 f.pad f.m.Γ::τ (eU .i64) 1 f.gi f.m.made::OZ f::L):=(E.dup (xx f).QM).trans E.Uf
attribute [local irreducible] Β Y GP δ vi Z Ef C0 E CB GB V.Enters
abbrev Ed:List K3:=[.ev 0,.ev 1,.ev 3,.ev 4,.ef 2,.ev 6,.ef 5,.ef 7,.ev 8,.ef 9]
def OX{φ ψ:Prop}(k:ψ)(h:Hid ψ->φ:=by intro k;(repeat (first|refine ab ?_|intro B8|refine Β.dr 12 1 Ed ?_));(repeat revert B8);exact Hid.out k):φ:=h ⟨k⟩
def Af{L:Ι}(f:O7)(I:f.m.Γ.length<=1000000)(Q:f.m.made.length<=1000000) :
  Υ Λ 53 #[bC (fw f)] (OZ f::L) (λv Ε=>∃f',v=bC (fw f')/\f'.m=f.m/\Ε = SV f'::OZ f::L):=by
 obtain⟨⟨i1,i2,i3,i4,i5,i6,i7,i8,i9,Γ,made⟩,pad,J3,gi,iM⟩:=f;dsimp only at I Q;refine Υ.bd (args:=[bC (fw ⟨⟨i1,i2,i3,i4,i5,i6,i7,i8,i9,Γ,made⟩,pad,J3,gi,iM⟩)]) ?_;refine Β.cM Ja ?_;dsimp only;refine OX ?_;intros;refine δ.ca (ju pad Γ.length J3 Γ rfl I) ?_;rintro _ _⟨a2,A,rfl,rfl⟩;refine OX ?_;intros;refine δ.ca (xm gi made.length iM made rfl Q) ?_;rintro _ _⟨a3,J,rfl,rfl⟩;refine OX ?_;intros;refine KX.a8 (by exact C9.cell rfl aY (C9.nil)) ?_ ⟨⟨⟨i1,i2,i3,i4,i5,i6,i7,i8,i9,Γ,made⟩,a2,A,a3,J⟩,rfl,rfl,rfl⟩;refine E.trans (hx:=μ aK 3 I5 a2 A Γ::μ (eU .i64) 1 C3 a3 J made::OZ ⟨⟨i1,i2,i3,i4,i5,i6,i7,i8,i9,Γ,made⟩,pad,J3,gi,iM⟩::L) aj ?_;exact E.n8
end
section
open Go.V
def OS(x y:iK):Int:=max 0 (y.2.1 - x.2.1)
def QD(x y:iK):Int:=min (x.2.2 - OS x y) (y.2.1+y.2.2 - (x.2.1+OS x y))
def RQ(x y:iK):iK:=(x.1,x.2.1+OS x y+QD x y,x.2.2 - OS x y - QD x y)
def QE:π->iK->List (iK×Bool)
 | [],x=>if 0<x.2.2 then[(x,false)] else[]
 | y::ys,x =>
  if 0<x.2.2/\y.1=x.1/\y.2.1<x.2.1+x.2.2 then
   (if 0<OS x y then[((x.1,x.2.1,OS x y),false)] else[])++(((x.1,x.2.1+OS x y,QD x y),true)::QE ys (RQ x y))
  else if 0<x.2.2 then[(x,false)] else[]
def NB(x y:iK):Prop:=x.1<y.1\/(y.1=x.1/\x.2.1<y.2.1+y.2.2)
instance (x y:iK):Decidable (NB x y):=by unfold NB;infer_instance
def QS(x:iK):π->π
 | []=>[]
 | y::ys=>if NB x y then y::ys else QS x ys
def Oe(set:π)(x:iK):List (iK×Bool):=QE (QS x set) x
theorem xW(x:iK):∀{set:π} {i:Nat},i<=set.length->(∀p,p<i->¬NB x set[p]!)->(i<set.length->NB x set[i]!)->set.drop i=QS x set
 | [],i,_,_,_=>by rw[List.drop_nil];rfl
 | y::ys,0,_,_,h=>by
  grind [QS]
 | y::ys,i+1,hi,I,Q=>by
  have h0:¬NB x y:=I 0 (Nat.succ_pos _);show ys.drop i=if NB x y then y::ys else QS x ys;rw[Ο h0];refine xW x (by simpa using hi) (λp hp=>I (p+1) D) (λq=>Q (by simpa using q))
theorem vj(x:iK):∀set:π,∃l,set=l++QS x set/\∀y∈l,¬NB x y
 | []=>⟨[],rfl,λ_ h=>by cases h⟩
 | y::ys=>by
  by_cases h:NB x y
  .exact⟨[],by grind [QS],λ_ h=>by cases h⟩
  .obtain⟨l,I,Q⟩:=vj x ys;grind [QS]
def pi(x:iK):∀{set:π},set.Pairwise sl->(∀y∈set,a0 y)->∀y∈QS x set,NB x y
 | [],_,_,_,h=>by cases h
 | y::ys,hs,ho,z,hz=>by
  rw[List.pairwise_cons] at hs;change z∈(if NB x y then y::ys else QS x ys) at hz;by_cases h:NB x y
  .rw[Ω h] at hz;rcases L7 hz with rfl|hz
   .exact h
   .have I:=hs.1 z hz;have Q:=ho z (az _ hz);unfold NB at h ⊢;unfold sl at I;unfold a0 at Q;omega
  .rw[Ο h] at hz;exact pi x hs.2 (λw hw=>ho w (az _ hw)) z hz
theorem yL{ys:π}{x:iK}(h:¬0<x.2.2):QE ys x=[]:=by
 cases ys with
 | nil=>exact Ο h
 | cons y ys=>exact(Ο (λq=>h q.1)).trans (Ο h)
def iZ(l:List (iK×Bool)):π:=(l.filter (λq=>!q.2)).map Prod.fst
def Pf(l:List (iK×Bool)):π:=(l.filter (λq=>q.2)).map Prod.fst
theorem Ga(a b:List (iK×Bool)):iZ (a++b)=iZ a++iZ b:=by grind [iZ]
theorem Is(a b:List (iK×Bool)):Pf (a++b)=Pf a++Pf b:=by grind [Pf]
def Ct{x y:iK}{ys:π}(h:0<x.2.2/\y.1=x.1/\y.2.1<x.2.1+x.2.2):QE (y::ys) x=(if 0<OS x y then[((x.1,x.2.1,OS x y),false)] else[])++(((x.1,x.2.1+OS x y,QD x y),true)::QE ys (RQ x y)):=Ω h
theorem sQ{x y:iK}{ys:π}(h0:0<x.2.2)(h:¬(y.1=x.1/\y.2.1<x.2.1+x.2.2)):QE (y::ys) x=[(x,false)]:=(Ο (λq=>h q.2)).trans (Ω h0)
theorem LE:∀{ys:π} {x:iK},a0 x->(∀y∈ys,a0 y)->ys.Pairwise sl->(∀y∈ys,NB x y)->(Pf (QE ys x)≠[]↔∃y∈ys,¬apart y x)
 | [],x,M,_,_,_=>by
  unfold a0 at M;rw[show QE [] x=[(x,false)] from Ω D];exact⟨λh=>iJ rfl h,ah⟩
 | y::ys,x,M,ho,hs,hp=>by
  unfold a0 at M;rw[List.pairwise_cons] at hs;have U:=ho y ah;unfold a0 at U;have A:=hp y ah;unfold NB at A;by_cases c:y.1=x.1/\y.2.1<x.2.1+x.2.2
  .grind [au,apart,Pf,QE]
  .rw[sQ D c];refine⟨λh=>iJ rfl h,λ⟨w,hw,hn⟩=>iJ ?_ hn⟩;grind [apart,sl]
structure Sv (z:π):Prop where
 ok:∀y∈z,a0 y
 sl:z.Pairwise sl
theorem LF{set:π}(h:Sv set){x:iK}(M:a0 x):Pf (Oe set x)≠[]↔∃y∈set,¬apart y x:=by
 obtain⟨l,I,Q⟩:=vj x set;have hk:=pi x h.sl h.ok;have J:∀y∈QS x set,a0 y:=λy U=>h.ok y ah
 have A:(QS x set).Pairwise sl:=by
  have:=h.sl
  rw[I] at this;exact ah
 grind [Oe,LE,NB,apart]
theorem FY:∀{ys:π} {x:iK},J9 x->(∀y∈ys,a0 y)->(∀y∈ys,NB x y)->ys.Pairwise sl->(∀q∈QE ys x,a0 q.1)/\(QE ys x).length<=2*ys.length+1
 | [],x,M,_,_,_=>by
  grind [J9,QE,a0]
 | y::ys,x,M,ho,hp,hs=>by
  rw[List.pairwise_cons] at hs;have U:=ho y ah;unfold a0 at U;have J:=hp y ah;unfold NB at J;have A:∀w∈ys,a0 w:=ah;have a2:=M;unfold J9 at a2;by_cases h:0<x.2.2
  .by_cases c:y.1=x.1/\y.2.1<x.2.1+x.2.2
   .rw[Ct ⟨h,c⟩];have hw:J9 (RQ x y):=by unfold J9 RQ QD OS;dsimp only;omega
    obtain⟨i1,i2⟩:=FY (ys:=ys) hw A (by grind [sl,a0,NB,RQ,QD]) hs.2;grind [a0,OS,QD]
   grind [sQ,a0]
  grind [yL]
theorem FZ{set:π}(h:Sv set){x:iK}(M:a0 x):(∀q∈Oe set x,a0 q.1)/\(Oe set x).length<=2*set.length+1:=by
 obtain⟨l,I,Q⟩:=vj x set;have hk:=pi x h.sl h.ok;have J:∀y∈QS x set,a0 y:=λy U=>h.ok y ah
 have A:(QS x set).Pairwise sl:=by
  have:=h.sl
  rw[I] at this;exact ah
 obtain⟨i1,i2⟩:=FY M.w J hk A;grind [Oe]
