/- Lemmas. -/
import Derived.Test.YtlgpgjdggilkgaaGreatDoorErav
set_option linter.all false
set_option maxHeartbeats 8000000
namespace Go.Proofs.YtlgpgjdggilkgaaGreatDoor
section
open Go.V
attribute [local irreducible] Δ R GP Ο h2 GF GE O Ef A8 A CB GB V.Enters
def kF(k:Int):Int->Bool:=if k=0\/k=5 then(λn=>dB (n=0)) else if k=4\/k=10\/k=9 then(λ_=>true) else(λn=>dB (¬n=0))
def kT(k:Int):Int->Bool:=if k=1\/k=6 then(λn=>dB (n=0)) else if k=4\/k=10\/k=7 then(λ_=>true) else(λn=>dB (¬n=0))
def kS(k:Int):Bool:=if k=5\/k=7\/k=9 then true else false
def kW(k:Int):FuncId:=if k=4 then 273 else if k=10 then 274 else 271
abbrev HW(ff tf wf:FuncId)(st:Bool):Value:=.agg #[.func (.func ff) #[] #[],.func (.func tf) #[] #[],.bool st,.func (.func wf) #[] #[]]
def vH{n:Nat}{k:Int}{m:A9}(hk:0<=k/\k<=10):Oi n k m↔jw n (kF k) (kT k) (kS k) m:=by
 have eF:kF k m.Ψ=true↔(if k=0\/k=5 then m.Ψ=0 else if k=4\/k=10\/k=9 then True else ¬m.Ψ=0):=by
  unfold kF;by_cases a:k=0\/k=5
  .rw[μ a,μ a,dd,decide_eq_true_iff]
  .rw[Ω a,Ω a];by_cases b:k=4\/k=10\/k=9
   .rw[μ b,μ b];simp
   .rw[Ω b,Ω b,dd,decide_eq_true_iff]
 have eT:kT k m.to=true↔(if k=1\/k=6 then m.to=0 else if k=4\/k=10\/k=7 then True else ¬m.to=0):=by
  unfold kT;by_cases a:k=1\/k=6
  .rw[μ a,μ a,dd,decide_eq_true_iff]
  .rw[Ω a,Ω a];by_cases b:k=4\/k=10\/k=7
   .rw[μ b,μ b];simp
   .rw[Ω b,Ω b,dd,decide_eq_true_iff]
 have eS:(if kS k=true then jm m.Ζ m.n else m.Ζ.length=0)↔(if k=5\/k=7\/k=9 then jm m.Ζ m.n else m.Ζ.length=0):=by
  unfold kS;by_cases a:k=5\/k=7\/k=9
  .rw[μ a,μ rfl,μ a]
  .rw[Ω a,Ω ac,Ω a]
 unfold Oi jw pL;rw[eF,eT,eS];generalize jm m.Ζ m.n=PA;generalize m.Ζ.length=pl;unfold K7;rcases (by omega:k=0\/k=1\/k=2\/k=3\/k=4\/k=5\/k=6\/k=7\/k=8\/k=9\/k=10) with rfl|rfl|rfl|rfl|rfl|rfl|rfl|rfl|rfl|rfl|rfl<;>simp<;>intros<;>omega
def Gx{n:Nat}{k:Int}{m:A9}(hk:KJ k)(h5:¬k=5)(h:Oi n k m):m.Ζ=[]:=by
 have J:0<=k/\k<=10:=by unfold KJ at hk;omega
 have U:=((vH J).1 h).2.2.2.2.2.2.2;rw[show kS k=false from Ω (by unfold KJ at hk;omega),Ω ac] at U;exact bG U
noncomputable instance XX (a:List Pj) (b:C8):Decidable (lT a b):=Classical.propDecidable _
def BV{L:LH}(k:Int)(hk:KJ k):Λ Ε 187 #[E k] L (λv Y=>∃ff tf,v=.tuple #[HW ff tf (kW k) (kS k),.bool true]/\(Po ff (kF k)/\Po tf (kT k))/\Y = L):=by
 rcases hk with rfl|rfl|rfl|rfl|rfl
 .refine Λ.bd (args:=[E 0]) ?_;refine Ih ?_;intros;exact KX.a8 (by exact B6.cell rfl aS (B6.tmp rfl (B6.nil))) ag ⟨_,_,rfl,⟨mD,jH⟩,rfl⟩
 .refine Λ.bd (args:=[E 1]) ?_;refine Ih ?_;intros;exact KX.a8 (by exact B6.cell rfl aS (B6.tmp rfl (B6.nil))) ag ⟨_,_,rfl,⟨jH,mD⟩,rfl⟩
 .refine Λ.bd (args:=[E 2]) ?_;refine Ih ?_;intros;exact KX.a8 (by exact B6.cell rfl aS (B6.tmp rfl (B6.nil))) ag ⟨_,_,rfl,⟨jH,jH⟩,rfl⟩
 .refine Λ.bd (args:=[E 5]) ?_;refine Ih ?_;intros;exact KX.a8 (by exact B6.cell rfl aS (B6.tmp rfl (B6.nil))) ag ⟨_,_,rfl,⟨mD,jH⟩,rfl⟩
 .refine Λ.bd (args:=[E 6]) ?_;refine Ih ?_;intros;exact KX.a8 (by exact B6.cell rfl aS (B6.tmp rfl (B6.nil))) ag ⟨_,_,rfl,⟨jH,mD⟩,rfl⟩
abbrev xW:=Uu [.ev 4,.ef 5,.ev 6,.ev 7,.ev 8,.ev 9,.ev 10,.ev 11,.ev 12,.ev 13,.ev 14,.ev 15,.ev 16,.ev 17,.ev 18,.ev 19,.ev 20,.ev 21,.ef 22,.ev 23,.ev 24,.ev 25,.ev 26,.ev 27,.ev 28,.ev 29,.ev 30,.ev 31,.ev 32,.ev 33,.ev 34,.ev 35,.ev 36]
def LB{φ ψ:Prop}(k:ψ)(h:Hid ψ->φ:=by intro k;(repeat (first|refine aa ?_|intro sh|refine Δ.dr 70 2 xW ?_));(repeat revert sh);exact Hid.out k):φ:=h ⟨k⟩
def Az{L Α:LH}{b:Nat}{d:Int}{x:Jl}[hp:KP L b MR (bV d x) Α][hr:C7 L x.B8 E8 da 7 x.hx](s:E8)(a4:KJ s.Κ)[c2:C7 L s.cU G0 bJ 5 s.cM](b8:∀m∈s.cM,m.m.Ζ.length<=9223372036854775807)(hc:x.ζ.m.Ok)(hB:x.ζ.cq)(c3:x.hx.length<=65536)(c0:s.cM.length<=1000000)(b0:s.cM.length<=s.fH)(hI:id s.Ip)(h0:0<=Ni x) :
  Λ Ε 132 #[al b,bh (da s)] (JU x.ζ::IK s::L) (C9 (.bool (dB (ge x.ζ.m (Ni x) s.m))) (JU x.ζ::IK s::L)):=by
 have b6:=hB.B5;have c1:s.m.cM.length=s.cM.length:=by simp[E8.m]
 have hA:=Ra (c:=x.ζ.m) (now:=Ni x) (s:=s.m);have I:∀{p:Prop},¬p->(ge x.ζ.m (Ni x) s.m->p)->dB (ge x.ζ.m (Ni x) s.m)=false:=λh q=>bj (λΘ=>h (q Θ));refine Λ.bd ?_;refine LB ?_;intros;rename_i b3;have hk:0<=s.Κ/\s.Κ<=10:=by unfold KJ at a4;omega
 refine R.ca (BV s.Κ a4) ?_;rintro _ _⟨ff,tf,rfl,⟨b1,b9⟩,rfl⟩;refine LB ?_;intros;rename_i b5;refine Ο.cr (nH s.MB) ?_;by_cases J:K7 s.MB
 case neg =>
  rw[bj J];refine LB ?_;intros;exact KX.a8 aw ag ⟨by rw[I J (λh=>(hA.1 h).2.1)];rfl,rfl⟩
 rw[bI J];by_cases U:0<=s.G
 case neg =>
  refine LB ?_;intros;exact KX.a8 aw ag ⟨by rw[I U (λh=>Int.le_trans h0 (hA.1 h).2.2.1.1)];rfl,rfl⟩
 by_cases h3:s.G<=1099511627776
 case neg =>
  refine LB ?_;intros;exact KX.a8 aw ag ⟨by rw[I h3 (λh=>(hA.1 h).2.2.1.2)];rfl,rfl⟩
 refine LB ?_;intros;refine Ο.cr (Dd (b:=b) (d:=d) (x:=x) B) ?_;rw[show(x.hx.getLast?.map (·.G)).getD 0=Ni x from rfl];by_cases h4:Ni x<=s.G
 case neg =>
  refine LB ?_;intros;exact KX.a8 aw ag ⟨by rw[I h4 (λh=>(hA.1 h).2.2.1.1)];rfl,rfl⟩
 by_cases h5:1<=s.cM.length
 case neg =>
  refine LB ?_;intros;exact KX.a8 aw ag ⟨by rw[I h5 (λh=>by have:=(hA.1 h).2.2.2.1.1;omega)];rfl,rfl⟩
 by_cases h6:s.cM.length<=64
 case neg =>
  refine LB ?_;intros;exact KX.a8 aw ag ⟨by rw[I h6 (λh=>by have:=(hA.1 h).2.2.2.1.2;omega)];rfl,rfl⟩
 refine LB ?_;intros;refine Δ.loop (α:=Nat) (λi=>i<=s.cM.length/\∀j:Nat,j<i->jw x.ζ.B5.length (kF s.Κ) (kT s.Κ) (kS s.Κ) s.cM[j]!.m) (λi=>[(0,al b),(3,al b3),(4,.bool false),(5,al b5),(53,ae s.cU s.cM.length s.fH),(54,E (s.cM.length:Int)),(55,E (i:Int))]) (λ_=>obj b5 FC [.func (.func ff) #[] #[],.func (.func tf) #[] #[],.bool (kS s.Κ),.func (.func (kW s.Κ)) #[] #[]]::obj b3 gJ (da s)::JU x.ζ::IK s::L) (λi=>s.cM.length - i) 0 ⟨aC _,λj h=>iW h B⟩ aA (A.refl _) ?_;rintro i ⟨hi,a9⟩;by_cases b7:i<s.cM.length
 case neg =>
  have b2:i=s.cM.length:=B;subst b2
  have a5:∀m∈s.cM,jw x.ζ.B5.length (kF s.Κ) (kT s.Κ) (kS s.Κ) m.m:=by
   intro m hm;obtain⟨j,hj,rfl⟩:=List.mem_iff_getElem.1 hm;have:=a9 j hj
   rw[C5 hj] at this;exact this
  have a3:∀m∈s.m.cM,Oi x.ζ.m.B5.length s.m.Κ m:=by
   intro m hm;obtain⟨v,hv,rfl⟩:=IY (show m∈s.cM.map G0.m from hm);exact(vH hk).2 (a5 v hv)
  have a6:dB (ge x.ζ.m (Ni x) s.m)=dB (lT x.ζ.m.rules s.m):=by
   by_cases hw:lT x.ζ.m.rules s.m
   .rw[bI hw,bI (hA.2 ⟨hk,J,⟨h4,h3⟩,⟨B,B⟩,a3,hw⟩)]
   .rw[bj hw,bj (λh=>hw (hA.1 h).2.2.2.2.2)]
  rw[a6];refine LB ?_;intros;have a7:¬s.Κ=4:=by unfold KJ at a4;omega
  have a2:¬s.Κ=10:=by unfold KJ at a4;omega
  have e1:kW s.Κ=271:=by unfold kW;rw[Ω a7,Ω a2]
  have e2:dB (lT x.ζ.m.rules s.m)=dB (jR s.Ip s.J4):=by
   have e:lT x.ζ.m.rules s.m=jR s.Ip s.J4:=by unfold lT;exact(Ω a7).trans (Ω a2)
   by_cases hw:jR s.Ip s.J4
   .rw[bI hw,bI (e▸hw)]
   .rw[bj hw,bj (e▸hw)]
  rw[e1,e2];refine R.ef (Ef.d7 rfl rfl (vV b s)) ac ?_;rintro _ _⟨rfl,rfl⟩;refine LB ?_;intros;exact KX.en ⟨rfl,rfl⟩
 have b4:(i:Int).toNat=i:=B;have r:=bA b7;refine Δ.υ (Y:=ε aI 3 s.cM[i]!.pad s.cM[i]!.m.Ζ::obj b5 FC [.func (.func ff) #[] #[],.func (.func tf) #[] #[],.bool (kS s.Κ),.func (.func (kW s.Κ)) #[] #[]]::obj b3 gJ (da s)::JU x.ζ::IK s::L) ((A.at (Μ:=IK s) (A.d8 (f:=G2) r)).trans ag) ?_;refine LB ?_;intros;rw[b4];refine R.cr (BW (b:=b) (d:=d) (x:=x) ff tf (kW s.Κ) (kF s.Κ) (kT s.Κ) (kS s.Κ) b1 b9 s.cM[i]! (b8 _ r) b6) ?_;by_cases h7:jw x.ζ.B5.length (kF s.Κ) (kT s.Κ) (kS s.Κ) s.cM[i]!.m
 case neg =>
  rw[bj h7];refine LB ?_;intros;refine KX.a8 aw ag ⟨?_,rfl⟩;rw[I h7 (λh=>(vH hk).1 ((hA.1 h).2.2.2.2.1 s.cM[i]!.m (Kg r)))];rfl
 rw[bI h7];refine LB ?_;intros;refine⟨i+1,⟨B,?_⟩,B,?_,by exact ag⟩
 .intro j hj;rcases Nat.lt_or_ge j i with h|h
  .exact a9 j h
  .obtain rfl:j=i:=B;exact h7
 .rw[bC i];exact aA
end
section
open Go.V
structure Ny where
 cs:Nat
 ct:Nat
 ci:Nat
 cr:Nat
 ο:List ((Int×Int)×ey)
 gr:List (Int×Int)
 imp:List (Int×ey)
 ret:List (Int×ey)
 Ι:List JX
 A7:OA
 C4:Nat
 JG:List Int
 Kk:OA
 Kl:Nat
abbrev cC(b:Nat)(s:E8)(z:Ny):LV:=[al b,E s.F,E s.Κ,E s.MB,E s.G,E s.Ip,E s.J4,ae s.cU s.cM.length s.fH,.map (some z.cs),.map (some z.ct),.map (some z.ci),.map (some z.cr),ae z.A7 z.Ι.length z.C4,ae z.Kk z.JG.length z.Kl]
abbrev F1(b bc:Nat)(s:E8)(z:Ny)(L:LH):LH :=
 obj bc Q0 (cC b s z)::τ B7 ey.v z.cs z.ο::τ cu KH z.ct z.gr::τ cu ey.v z.ci z.imp::τ cu ey.v z.cr z.ret::Υ ee 11 fS z.A7 z.C4 z.Ι::Υ (a0 .i64) 1 kR z.Kk z.Kl z.JG::Ρ (λp:(Int×Int)×ey=>E7 p.2) z.ο::Ρ Kw z.Ι::Ρ (λp:Int×ey=>E7 p.2) z.imp::Ρ (λp:Int×ey=>E7 p.2) z.ret::L
def I7{κ:Type}[DecidableEq κ](z x:List (κ×ey))(k:κ):ey:=(dV z k).getD (eO x k)
def rV{κ:Type}[DecidableEq κ]{z x:List (κ×ey)}(k:κ){L:LH}:A (Ρ (λp:κ×ey=>E7 p.2) z::Ρ (λp:κ×ey=>E7 p.2) x::L) (E7 (I7 z x k)::Ρ (λp:κ×ey=>E7 p.2) z::Ρ (λp:κ×ey=>E7 p.2) x::L):=by
 unfold I7;cases h:dV z k with
 | none=>exact(A.c7 (sT k)).trans A.swap
 | some s=>exact A.d8 (f:=λp:κ×ey=>E7 p.2) (x:=(k,s)) (bT h)
def pH{κ:Type}[DecidableEq κ]{m:List (κ×ey)}{k:κ}{s:ey}{L:LH}:A (E7 s::Ρ (λp:κ×ey=>E7 p.2) m::L) (Ρ (λp:κ×ey=>E7 p.2) (fc m k s)::L) :=
 (A.j5 (f:=λp:κ×ey=>E7 p.2) (λp=>ra p.2) (x:=(k,s)) (l:=m)).trans (A.g9 (l':=fc m k s) qC)
def mQ{κ:Type}[DecidableEq κ]{z x:List (κ×ey)}{k q:κ}{s:ey}:I7 (fc z k s) x q=if q=k then s else I7 z x q:=by
 unfold I7;rw[dg];split<;>rfl
structure Ln (g:Int->ey) (l:LL):Prop where
 ok:∀f,Nx (g f).C0
 cap:∀f,(g f).C0.length<=(g f).cap
 len:∀f,(g f).C0.length<=l.length
 ov:∀f t,π t->t.1=f->OV (g f).C0 t=OV (MV l f) t
def Ez{g:Int->ey}{l:LL}(h:Ln g l)(hl:∀y∈l,π y){p:gq}(hp:π p):(∃y∈(g p.1).C0,¬apart y p)↔∃y∈MV l p.1,MW p y:=by
 rw[<-xj (h.ok p.1).ok hp,h.ov p.1 p hp rfl,xj (λy Z=>hl y (O0.1 Z).1) hp];constructor
 .rintro⟨y,Z,hn⟩;have:=(O0.1 Z).2
  refine⟨y,Z,?_⟩;unfold apart at hn;unfold MW;omega
 .rintro⟨y,Z,hn⟩;have:=(O0.1 Z).2
  refine⟨y,Z,?_⟩;unfold MW at hn;unfold apart;omega
def Go{set:LL}(hs:Nx set){p:gq}(hp:π p):0<(O4 [p] set).length↔∃y∈set,¬apart y p:=by
 rw[<-Ho hs hp];have e:O4 [p] set=(KK (J1 set p)).foldl bz []:=by unfold O4;rw[Fv]
 rw[e]
 have hw:∀x∈KK (J1 set p),1<=x.2.2:=λx K=>by
  obtain⟨q,hq,rfl⟩:=IY K;have:=(CO hs hp).1 q (List.mem_filter.1 hq).1
  unfold π at this;omega
 generalize KK (J1 set p)=P at hw;cases P with
 | nil=>exact⟨λh=>iW h ac,λh=>iW rfl h⟩
 | cons x P =>
  have J:=hw x az;have K:bz [] x=[x]:=by unfold bz;rw[Ω B,Ω (λq=>q.1 rfl)];rfl
  have r:∀(P l:LL),0<l.length->0<(P.foldl bz l).length:=by
   intro P;induction P with
   | nil=>intro l h;exact h
   | cons y P ih =>
    intro l h;refine ih _ ?_;unfold bz;split
    .exact h
    .split
     .rw[bq];exact h
     .rw[aq];omega
  refine⟨λ_ h=>(by cases h),λ_=>?_⟩;show 0<(P.foldl bz (bz [] x)).length;rw[K];exact r P [x] (by rw[bu];exact Nat.one_pos)
def EA{g:Int->ey}{l:LL}(h:Ln g l)(hl:∀y∈l,π y){p:gq}(hp:π p)(hn:¬ ∃y∈(g p.1).C0,¬apart y p){ys:LL}(Z:gc LW ((g p.1).C0++[p]) ys){g' : Int->ey}(J:(g' p.1).C0=Ju ys)(hc:(Ju ys).length<=(g' p.1).cap)(U:∀f,f≠p.1->g' f=g f):Ln g' (l++[p]):=by
 have I:∀x∈(g p.1).C0++[p],π x:=λx K=>by
  rcases It K with q|q
  .exact(h.ok p.1).ok x q
  .rw[D6 q];exact hp
 obtain⟨s1,s2,_,s4⟩:=uh Z I;have ha:Iu ((g p.1).C0++[p]):=P5.2 ⟨uD (h.ok p.1).sl,λy hq=>Classical.byContradiction λΘ=>hn ⟨y,hq,Θ⟩⟩;have r:=h.len;refine⟨λf=>?_,λf=>?_,λf=>?_,λf t ht hf=>?_⟩
 .by_cases e:f=p.1
  .rw[e,J];exact s1
  .rw[U f e];exact h.ok f
 .by_cases e:f=p.1
  .rw[e,J];exact hc
  .rw[U f e];exact h.cap f
 .rw[aq,bu];by_cases e:f=p.1
  .rw[e,J];have:=r p.1
   rw[aq,bu] at s2;omega
  .rw[U f e];have:=r f
   omega
 .rw[EP];by_cases e:f=p.1
  .rw[e,J,s4 ha t ht,fw,iu,μ rfl,fw,iu,h.ov p.1 t ht (hf.trans e)]
  .rw[U f e,Ω (λq=>e q.symm)];exact h.ov f t ht hf
def Ey:Ln (λ_=>⟨none,0,[]⟩) []:=⟨λ_=>⟨(λy h=>by cases h),.nil⟩,λ_=>au _,λ_=>au _,λ_ _ _ _=>rfl⟩
attribute [local irreducible] Δ R GP Ο h2 GF GE O Ef A8 A CB GB V.Enters
def Ah{L R1 R2:LH}{mz mx:Nat}{z x:List (Int×ey)}[r:KQ L mz Int ey cu ey.v z R1][I:KQ L mx Int ey cu ey.v x R2](f:Int) :
  Λ Ε 302 #[.map (some mz),.map (some mx),E f] L (C9 ((I7 z x f).v) L):=by
 refine Λ.bd ?_;refine Ih ?_;intros;refine R.ev (O.a8 rfl rfl) ac ?_;cases h:@List.lookup _ _ instBEqOfDecidableEq f z with
 | some k =>
  simp only[dM,Option.getD_some,Option.isSome_some];refine Ih ?_;intros;refine KX.a8 aw ag ⟨?_,rfl⟩;unfold I7 dV;rw[h];rfl
 | none =>
  simp only[gF,Option.getD_none,Option.isSome_none];refine Ih ?_;intros;refine R.ev (O.j5 rfl rfl) ac ?_;rw[rY];refine Ih ?_;intros;refine KX.a8 aw ag ⟨?_,rfl⟩;unfold I7 dV;rw[h];rfl
end
section
open Go.V
attribute [local irreducible] Δ R GP Ο h2 GF GE O Ef A8 A CB GB V.Enters
abbrev AS:=Uy [.ef 13,.ev 14]
def bX{φ ψ:Prop}(k:ψ)(h:Hid ψ->φ:=by intro k;(with_reducible apply Δ.a8);first|refine Δ.dr 71 7 AS (Hid.out k)):φ:=h ⟨k⟩
def LS{φ ψ:Prop}(k:ψ)(h:Hid ψ->φ:=by intro k;(repeat (first|refine aa ?_|intro sh|refine bX ?_));(repeat revert sh);exact Hid.out k):φ:=h ⟨k⟩
def Ck{L:LH}(b bc:Nat)(d:Int)(x:Jl)(s:E8)(z:Ny)(l:LL)(hm:Ln (I7 z.imp x.imp) l)(hl:l.length<=2000)(d4:∀y∈l,π y)(m:G0)[hr:C7 L m.pad gq aI 3 m.m.Ζ](hp:∀p∈m.m.Ζ,π p)(hb:∀p∈m.m.Ζ,p.1<=9223372036854775807)(e0:m.m.Ζ.length<=2000) :
  Λ Ε 276 #[al bc,bh (bJ m)] (F1 b bc s z (B1 b d x L)) (λv Y=>∃u,v=E (MF d m.m.Ζ l)/\(MF d m.m.Ζ l=0->Ln (I7 u x.imp) (l++m.m.Ζ))/\Y = F1 b bc s { z with imp:=u } (B1 b d x L)):=by
 obtain⟨⟨Ψ,to,aT,mn,Ζ⟩,pad,F6⟩:=m;dsimp only at hr hp hb e0 ⊢;refine Λ.bd (args:=[al bc,bh (bJ ⟨⟨Ψ,to,aT,mn,Ζ⟩,pad,F6⟩)]) ?_;simp only[bJ,F1,cC,B1,bV];refine LS ?_;intros;rename_i b3;refine Δ.loop (α:=Nat×List (Int×ey)) (λg=>g.1<=Ζ.length/\Ln (I7 g.2 x.imp) (l++Ζ.take g.1)/\MF d Ζ l=MF d (Ζ.drop g.1) (l++Ζ.take g.1)) (λg=>[(0,al bc),(12,ae pad Ζ.length F6),(13,E Ζ.length),(14,E (g.1:Int))]) (λg=>F1 b bc s { z with imp:=g.2 } (B1 b d x (L))) (λg=>Ζ.length - g.1) (0,z.imp) ⟨aC _,by rw[aU,aJ];exact hm,by rw[aU,aJ];rfl⟩ aA (by(try simp only[F1,cC,B1,bV]);exact ag) ?_;rintro⟨i,mp⟩ ⟨hi,a3,hg⟩;dsimp only at hi a3 hg ⊢;by_cases b1:i<Ζ.length
 case neg =>
  rw[bN B,aG B] at hg;rw[aG B] at a3;have d2:MF d Ζ l=0:=hg;rw[d2];(try simp only[F1,cC,B1,bV]);refine LS ?_;intros;refine KX.a8 aw ?_ ⟨mp,rfl,λ_=>a3,rfl⟩;(try simp only[F1,cC,B1,bV]);exact ag
 have d3:(i:Int).toNat=i:=aZ i;have d5 : (i:Int).toNat<Ζ.length:=B;have e1:Ζ[(i:Int).toNat]! = Ζ[i]!:=by rw[d3]
 have b5:l++Ζ.take (i+1)=l++Ζ.take i++[Ζ[(i:Int).toNat]!]:=by rw[e1,av b1,C5 b1,ax]
 have d6:(l++Ζ.take i).length<=4000:=by rw[aq,aK];omega
 have b0:∀y∈l++Ζ.take i,π y:=λy Z=>by
  rcases It Z with q|q
  .exact d4 y q
  .exact hp y (cl q)
 have c6:=hb _ (bA b1);have a4:=hp _ (bA b1);rw[<-e1] at c6 a4;rw[jh b1,th,<-e1] at hg;rw[<-b5] at hg;have b9:MF d Ζ l≠0->(MF d Ζ l=0->Ln (I7 mp x.imp) (l++Ζ)):=λh q=>iW q h;obtain⟨p,d0⟩:∃p,Ζ[(i:Int).toNat]! = p:=⟨_,rfl⟩;rw[d0] at c6 a4 hg b5;clear e1;have c0:=a4;unfold π at c0;have a9:=Ez a3 b0 a4;(try simp only[F1,cC,B1,bV]);refine LS ?_;intros;rw[d0];simp only[aI];refine LS ?_;intros;by_cases c1:p.1 / 4294967296=d
 .rw[μ (.inl c1)] at hg;rw[hg] at b9 ⊢;refine LS ?_;intros;exact KX.a8 aw (by(try simp only[F1,cC,B1,bV]);exact ag) ⟨mp,rfl,λh=>iW h ac,rfl⟩
 by_cases c2:11<p.1 / 4294967296
 .rw[μ (.inr c2)] at hg;rw[hg] at b9 ⊢;refine LS ?_;intros;exact KX.a8 aw (by(try simp only[F1,cC,B1,bV]);exact ag) ⟨mp,rfl,λh=>iW h ac,rfl⟩
 rw[Ω (λq=>q.elim c1 c2)] at hg;refine LS ?_;intros;refine Ο.cr (Ah (z:=mp) (x:=x.imp) p.1) ?_;have b4:=a3.ok p.1;have a7:=a3.cap p.1;have e3:=a3.len p.1;have a6:=λ (h:¬ ∃y∈(I7 mp x.imp p.1).C0,¬apart y p) (ys:LL) (Z:gc LW ((I7 mp x.imp p.1).C0++[p]) ys) (s' : ey) (J:s'.C0=Ju ys) (U:(Ju ys).length<=s'.cap)=>EA (g':=I7 (fc mp p.1 s') x.imp) a3 b0 a4 h Z (by rw[mQ,μ rfl,J]) (by rw[mQ,μ rfl];exact U) (λf e=>by rw[mQ,Ω e]);have b2:=λξ:LH=>rV (z:=mp) (x:=x.imp) p.1 (L:=ξ);generalize I7 mp x.imp p.1=sk at *;obtain⟨B8,IT,r⟩:=sk;dsimp only at b4 a7 e3 a6 a9
 have d1:∀y∈r++[p],π y:=λy Z=>by
  rcases It Z with q|q
  .exact b4.ok y q
  .rw[D6 q];exact a4
 simp only[ey.v];refine LS ?_;intros;rename_i b6 bl;refine R.υ (Y:=[ε aI 3 (some ⟨bl,0,none⟩) [p],ε aI 3 B8 r]++(ε aI 3 B8 r::F1 b bc s { z with imp:=mp } (B1 b d x (obj b6 G1 (aI p)::L)))) ?_ ?_
 .refine(A.at (Μ:=obj bl G1 [E p.1,E p.2.1,E p.2.2]) (A.d9 (Β:=aI) (sz:=3) (D:=[p]) (n:=1) rfl rfl (λ_ _=>rfl) ac)).trans (A.JC.trans ?_);refine(A.at (Μ:=Ρ (λp:Int×ey=>E7 p.2) mp) (A.refl _)).trans ?_;refine(A.c7 (A.at (Μ:=Ρ (λp:Int×ey=>E7 p.2) x.imp) (A.refl _))).trans ?_;refine(b2 _).trans ?_;refine A.trans (show A (E7 ⟨B8,IT,r⟩::_) (ε aI 3 B8 r::_) from A.refl _) ?_;refine(A.dup (cA _ _ _ _).Mx).trans ?_;simp only[F1,cC,B1,bV,aI,aj,ak];exact ag
 simp only[aj,ak];(first|refine R.ef (Ef.call (DO (some ⟨bl,0,none⟩) 1 [p] B8 IT r (by rw[bu];decide) B (λy Z=>by rw[D6 Z];exact a4) b4) rfl eY) ac ?_);rintro _ _⟨_,⟨e4,e6,e5,e7,rfl,rfl⟩,hL⟩;simp only[aj,ak] at hL;subst hL;have c4:=Go b4 a4;generalize hpi:(O4 [p] r).length=pn at c4;refine LS ?_;intros;by_cases c3:∃y∈r,¬apart y p
 .have e2:=c4.2 c3;rw[μ (a9.1 c3)] at hg;rw[hg] at b9 ⊢;(try simp only[F1,cC,B1,bV]);refine LS ?_;intros;exact KX.a8 aw (by(try simp only[F1,cC,B1,bV]);exact ag) ⟨mp,rfl,λh=>iW h ac,rfl⟩
 have e2:¬0<pn:=λq=>c3 (c4.1 q);rw[Ω (λq=>c3 (a9.2 q))] at hg;repeat first|refine Δ.sn 11 ?_|refine cR ?_|intro _|refine bX ?_
 refine Δ.υ (Y:=JF aI 3 G1 B8 r.length r (B8,r)::obj b6 G1 [E p.1,E p.2.1,E p.2.2]::F1 b bc s { z with imp:=mp } (B1 b d x (L))) ?_ ?_
 .refine(A.at (Μ:=ε aI 3 B8 r) (A.n9 (Τ:=G1) (by simp only[maxLen];omega))).trans ?_;(try simp only[F1,cC,B1,bV,aI]);exact ag
 .skip;simp only[F1,cC,B1,bV];refine Δ.d9 mixed Γ ?_;refine GF.H6 (i:=0) rfl Γ (O.move rfl) ac ?_;refine GF.H6 (i:=1) rfl Γ (O.nilCheck rfl) ac ?_;refine GF.H6 (i:=2) rfl Γ (by first|exact O.fieldAddr rfl|exact O.f5 rfl) ac ?_;refine GF.Js (i:=3) rfl Γ (by first|exact O.d8 rfl rfl|exact O.d7 rfl aS|exact O.c9 rfl rfl|exact O.d9 rfl B|exact O.f8 rfl B ac rfl) ac ?_;refine GF.H6 (i:=4) rfl Γ (by first|exact O.fieldAddr rfl|exact O.f5 rfl) ac ?_;refine GF.Js (i:=5) rfl Γ (by first|exact O.d8 rfl rfl|exact O.d7 rfl aS|exact O.c9 rfl rfl|exact O.d9 rfl B|exact O.f8 rfl B ac rfl) ac ?_;refine GF.H6 (i:=6) rfl Γ (O.move rfl) ac ?_;refine GF.Js (i:=8) rfl Γ (by first|exact O.d8 rfl rfl|exact O.d7 rfl aS|exact O.c9 rfl rfl|exact O.d9 rfl B|exact O.f8 rfl B ac rfl) ac ?_;refine GF.a8 7 9 Γ ?_ ?_
  .refine GE.ef rfl (Ef.d8 (ph B8 r.length IT a7) rfl) ac ?_;rintro _ _⟨rfl,rfl⟩;refine⟨(by intro pe hp;simp only[dL,aD,or_false] at hp;rcases hp with rfl|rfl|rfl<;>first|exact O.d8 rfl rfl|exact O.d7 rfl aS|exact O.c9 rfl rfl),?_⟩;refine GF.kP [.ef 9,.ef 10,.ef 11,.ef 12] Γ rfl ?_;refine LS ?_;intros;refine Ο.ef (Ef.k9 (Β:=aI) (e:=p) rfl rfl rfl rfl rfl aS (fq _) B B) ac ?_;rintro _ _⟨b7,a5,rfl,rfl⟩;refine LS ?_;intros;refine Ο.ca (ot b7 (r++[p]).length a5 (r++[p]) rfl (by rw[aq,bu];omega) d1) ?_;rintro _ _⟨a2,I,ys,rfl,c5,rfl⟩;refine LS ?_;intros;refine Ο.Qv (ke (M:=a2) (cap:=I) (D:=Ju ys) (Β:=aI) (sz:=3) (Τ:=G1)) ?_;rintro⟨b8,_⟩;refine Ο.I1 (Ef.f5 (Β:=ey.v) (e:=(⟨a2,I,Ju ys⟩:ey)) rfl rfl rfl rfl) ?_;rintro _ _⟨rfl,rfl⟩;refine LS ?_;intros;refine⟨(i+1,fc mp p.1 ⟨a2,I,Ju ys⟩),⟨by dsimp only;omega,by dsimp only;rw[b5];exact a6 c3 ys c5 ⟨a2,I,Ju ys⟩ rfl b8,hg⟩,by dsimp only;omega,by dsimp only;rw[bC i];exact aA,?_⟩;refine(A.My a2).trans ?_;refine(A.at (Μ:=Ρ (λp:Int×ey=>E7 p.2) mp) (A.refl _)).trans ?_;refine(A.at (Μ:=ε aI 3 a2 (Ju ys)) (pH (s:=⟨a2,I,Ju ys⟩) (k:=p.1))).trans ?_;simp only[F1,cC,B1,bV];exact ag
  .refine GE.ef rfl (Ef.lit rfl rfl ac rfl) ac ?_;rintro _ _⟨bm,rfl,rfl⟩;refine⟨(by intro pe hp;simp only[dL,aD,or_false] at hp;rcases hp with rfl|rfl|rfl<;>first|exact O.d8 rfl rfl|exact O.d7 rfl aS|exact O.c9 rfl rfl),?_⟩;refine GF.kP [.ef 7,.ef 10,.ef 11,.ef 12] Γ rfl ?_;refine LS ?_;intros;refine Ο.cr (ph B8 r.length IT a7) ?_;refine LS ?_;intros;refine Ο.ef (Ef.k9 (Β:=aI) (e:=p) rfl rfl rfl rfl rfl aS (fq _) B B) ac ?_;rintro _ _⟨b7,a5,rfl,rfl⟩;refine LS ?_;intros;refine Ο.ca (ot b7 (r++[p]).length a5 (r++[p]) rfl (by rw[aq,bu];omega) d1) ?_;rintro _ _⟨a2,I,ys,rfl,c5,rfl⟩;refine LS ?_;intros;refine Ο.Qv (ke (M:=a2) (cap:=I) (D:=Ju ys) (Β:=aI) (sz:=3) (Τ:=G1)) ?_;rintro⟨b8,_⟩;refine Ο.I1 (Ef.f5 (Β:=ey.v) (e:=(⟨a2,I,Ju ys⟩:ey)) rfl rfl rfl rfl) ?_;rintro _ _⟨rfl,rfl⟩;refine LS ?_;intros;refine⟨(i+1,fc mp p.1 ⟨a2,I,Ju ys⟩),⟨by dsimp only;omega,by dsimp only;rw[b5];exact a6 c3 ys c5 ⟨a2,I,Ju ys⟩ rfl b8,hg⟩,by dsimp only;omega,by dsimp only;rw[bC i];exact aA,?_⟩;refine(A.My a2).trans ?_;refine(A.at (Μ:=Ρ (λp:Int×ey=>E7 p.2) mp) (A.refl _)).trans ?_;refine(A.at (Μ:=ε aI 3 a2 (Ju ys)) (pH (s:=⟨a2,I,Ju ys⟩) (k:=p.1))).trans ?_;simp only[F1,cC,B1,bV];exact ag
