/- Lemmas. -/
import Derived.Test.YtlgpgjdggilkgaaGreatDoorEdas
set_option linter.all false
set_option maxHeartbeats 4000000
namespace Go.Proofs.YtlgpgjdggilkgaaGreatDoor
section
open Go.V
def TX(l set:π):π:=(Pf (l.flatMap (Oe set))).foldl bF []
def Wh(l set:π):π:=(iZ (l.flatMap (Oe set))).foldl bF []
def Gb(l:List (iK×Bool))(q:iK×Bool):Pf (l++[q])=Pf l++(if q.2=true then[q.1] else[]):=by
 rw[Is];obtain⟨x,b⟩:=q;cases b<;>rfl
def Eu(l:List (iK×Bool))(q:iK×Bool):iZ (l++[q])=iZ l++(if q.2=true then[] else[q.1]):=by
 rw[Ga];obtain⟨x,b⟩:=q;cases b<;>rfl
def Ko{l set:π}(hs:Sv set)(hw:∀x∈l,a0 x):(∀q∈l.flatMap (Oe set),a0 q.1)/\(l.flatMap (Oe set)).length<=l.length*(2*set.length+1):=by
 induction l with
 | nil=>exact⟨(λq h=>by cases h),by simp⟩
 | cons x l ih =>
  obtain⟨i1,i2⟩:=ih (λy U=>hw y (az _ U));obtain⟨p1,p2⟩:=FZ hs (hw x au);rw[aS];refine⟨λq hq=>?_,?_⟩
  .rcases J4 hq with h|h
   .exact p1 q h
   .exact i1 q h
  .rw[aA,aL,ig];omega
def Kp(l:List (iK×Bool)):(Pf l).length<=l.length/\(iZ l).length<=l.length:=by
 unfold Pf iZ;rw[ak,ak];exact⟨fD _ _,fD _ _⟩
def Ir{l:List (iK×Bool)}(h:∀q∈l,a0 q.1):(∀x∈Pf l,J9 x)/\∀x∈iZ l,J9 x:=by
 constructor
 .intro x M;obtain⟨q,hq,rfl⟩:=H8 M;exact(h q (List.mem_filter.1 hq).1).w
 .intro x M;obtain⟨q,hq,rfl⟩:=H8 M;exact(h q (List.mem_filter.1 hq).1).w
attribute [local irreducible] Β Y GP δ vi Z Ef C0 E CB GB V.Enters
abbrev DP:List K3:=[.ev 0,.ev 1,.ef 2,.ef 3]
def gk{φ ψ:Prop}(k:ψ)(h:Hid ψ->φ:=by intro k;first|refine Y.ci (f:=119) (Hid.out k)|refine δ.ci (f:=119) (Hid.out k)|refine Y.cf (f:=119) rfl (Hid.out k)|refine δ.cf (f:=119) rfl (Hid.out k)|refine KX.RY (Hid.out k)):φ:=h ⟨k⟩
def gj{φ ψ:Prop}(k:ψ)(h:Hid ψ->φ:=by intro k;(with_reducible apply Β.a8);first|refine Β.dr 22 7 DP (Hid.out k)):φ:=h ⟨k⟩
def Yp{φ ψ:Prop}(k:ψ)(h:Hid ψ->φ:=by intro k;(repeat (first|refine ab ?_|intro B8|refine gj ?_|refine gk ?_));(repeat revert B8);exact Hid.out k):φ:=h ⟨k⟩
def Hf(ad:OA)(c:Nat)(l:π)(K0:OA)(sc:Nat)(set:π)(a5:l.length<=4500)(b0:set.length<=4500)(hw:∀x∈l,a0 x)(hs:Sv set) :
  Υ Λ 303 #[ae ad l.length c,ae K0 set.length sc] [τ aK 3 ad l,τ aK 3 K0 set] (λv Ε=>∃A c1 J c2,v=.tuple #[ae A (TX l set).length c1,ae J (Wh l set).length c2]/\Ε = [μ aK 3 I5 A c1 (TX l set),μ aK 3 I5 J c2 (Wh l set)]):=by
 obtain⟨hq,a9⟩:=Ko hs hw;have a3:l.length*(2*set.length+1)<=4500*9001:=Nat.mul_le_mul a5 D;unfold TX Wh;have a4:=λbl bs=>yK bl bs ad c l K0 sc set D D hw hs;generalize l.flatMap (Oe set)=V at *;refine Υ.bd ?_;refine Yp ?_;intros;rename_i b4 b5 bx bf;refine Β.d8 (a4 bx bf) rfl YX.1 ac ?_ (λk=>[Tl b4 ((Pf (V.take k)).foldl bF []),Tl b5 ((iZ (V.take k)).foldl bF [])]) ?_ ?_ ?_
 .intro vs a7;obtain⟨q,_,rfl⟩:=H8 a7;rfl
 .simp only[aq,av,bA];rw[show(Pf []).foldl bF []=[] from rfl,show(iZ []).foldl bF []=[] from rfl];refine E.trans ?_ (E.f9 (none,0) (f:=NK b4 []) (E.refl _));refine E.trans ?_ (E.append (E.refl (NK b4 [] (none,0))) (E.f9 (none,0) (f:=NK b5 []) (E.refl _)));simp only[NK,bq,aq,av];refine E.trans (E.c8 aK 3 I5) (E.trans (E.c8 aK 3 I5) ?_);exact aj
 .intro k hk;rw[ak] at hk;rw[eW];have a6:V.take (k+1)=V.take k++[V[k]]:=aB hk;have a2:=hq _ (cY hk);obtain⟨l1,l2⟩:=Kp (V.take k);obtain⟨w1,w2⟩:=Ir (l:=V.take k) (λq h=>hq q (cI h));have b1:(V.take k).length<=41000000:=by rw[aP];omega
  have g1:=iV (Pf (V.take k)) [];have g2:=iV (iZ (V.take k)) [];have g3:=ku (l:=[]) (G:=Pf (V.take k)) (λ_ h=>by cases h) w1;have g4:=ku (l:=[]) (G:=iZ (V.take k)) (λ_ h=>by cases h) w2;rw[bq] at g1 g2;rw[a6,Gb,Eu,List.foldl_append,List.foldl_append];generalize (Pf (V.take k)).foldl bF []=an at *;generalize (iZ (V.take k)).foldl bF []=R at *;generalize V[k]=q at a2 ⊢;obtain⟨x,b⟩:=q;dsimp only at a2 ⊢;cases b with
  | true =>
   show Β _ _ _ ((12,.bool true)::(11,bC (aK x))::_) _ _;rw[Ω rfl,Ω rfl];refine Β.c9 (f:=NK b4 an) ?_;rintro⟨A,c1⟩;simp only[NK,aq,av,List.foldl_cons,List.foldl_nil];refine Yp ?_;intros;refine Y.cM (E.at (Φ:=μ aK 3 I5 A c1 an) (E.refl _)) ?_;refine Y.ca (wg A c1 an x D g3 a2.w) ?_;rintro _ _⟨J,c2,rfl,rfl⟩;refine Yp ?_;intros;refine KX.round ?_;refine E.trans ?_ (E.f9 (J,c2) (f:=NK b4 (bF an x)) (E.refl _));simp only[NK,aq,av];exact aj
  | false =>
   show Β _ _ _ ((12,.bool false)::(11,bC (aK x))::_) _ _;rw[Ο ac,Ο ac];refine Β.cM E.swap ?_;refine Β.c9 (f:=NK b5 R) ?_;rintro⟨A,c1⟩;simp only[NK,aq,av,List.foldl_cons,List.foldl_nil];refine Yp ?_;intros;refine Y.cM (E.at (Φ:=μ aK 3 I5 A c1 R) (E.refl _)) ?_;refine Y.ca (wg A c1 R x D g4 a2.w) ?_;rintro _ _⟨J,c2,rfl,rfl⟩;refine Yp ?_;intros;refine KX.round ?_;refine E.trans ?_ (E.swap (Φ:=Tl b5 (bF R x)));refine E.trans ?_ (E.f9 (J,c2) (f:=NK b5 (bF R x)) (E.refl _));simp only[NK,aq,av];exact aj
 .rw[ak,cK];generalize (Pf V).foldl bF []=an;generalize (iZ V).foldl bF []=R;simp only[aJ];refine KX.c7 (KX.f8 ?_);refine Β.c9 (f:=NK b4 an) ?_;rintro⟨A,c1⟩;refine Β.cM (Ε:=Tl b5 R::NK b4 an (A,c1)) (E.perm (by simp only[NK,aq,av];exact(List.Perm.cons _ (List.Perm.swap _ _ _)).trans (List.Perm.swap _ _ _))) ?_;refine Β.c9 (f:=NK b5 R) ?_;rintro⟨J,c2⟩;simp only[NK,aq,av];refine Yp ?_;intros;refine KX.a8 (vs:=[ae A an.length c1,ae J R.length c2]) (C9.a8 rfl (C9.a8 rfl C9.nil)) ?_ ⟨A,c1,J,c2,rfl,rfl⟩;exact aj
end
section
open Go.V
attribute [local irreducible] Β Y GP δ vi Z Ef C0 E CB GB V.Enters
def dI{φ ψ:Prop}(k:ψ)(h:Hid ψ->φ:=by intro k;first|refine Y.ci (f:=116) (Hid.out k)|refine δ.ci (f:=116) (Hid.out k)|refine Y.cf (f:=116) rfl (Hid.out k)|refine δ.cf (f:=116) rfl (Hid.out k)|refine KX.RY (Hid.out k)):φ:=h ⟨k⟩
def Yq{φ ψ:Prop}(k:ψ)(h:Hid ψ->φ:=by intro k;(repeat (first|refine ab ?_|intro B8|refine dI ?_));(repeat revert B8);exact Hid.out k):φ:=h ⟨k⟩
def zh{L:Ι}(ad:OA)(n c:Nat)(G:π)[F5 L ad iK aK 3 G](hn:n=G.length)(hm:n<=9223372036854775807) :
  Υ Λ 54 #[ae ad n c] L (F7 (.bool (dB (ir G))) L):=by
 subst hn;refine Υ.bd ?_;by_cases hb:G.length<=4096
 case neg =>
  rw[bz (λq:ir G=>hb q.2)];refine Yq ?_;intros;exact KX.en ⟨rfl,rfl⟩
 refine Yq ?_;intros;refine Β.loop (α:=Nat) (λi=>i<=G.length/\∀k,k<i->a0 G[k]!) (λi=>[(0,ae ad G.length c),(8,ae ad G.length c),(9,K G.length),(10,K (i:Int))]) (λ_=>L) (λi=>G.length - i) 0 ⟨aD _,λk hk=>iJ hk (Nat.not_lt_zero k)⟩ aG (E.refl _) ?_;rintro i ⟨hi,a4⟩;by_cases a6:i<G.length
 case neg =>
  have J:∀x∈G,a0 x:=λx M=>by
   obtain⟨k,hk,e⟩:=List.mem_iff_getElem.1 M;have Q:=a4 k D;rw[E7 hk,e] at Q;exact Q
  rw[bO (show ir G from⟨J,hb⟩)];refine Yq ?_;intros;exact KX.en ⟨rfl,rfl⟩
 have a5:(i:Int).toNat=i:=bB i;have a2:=bI a6
 have a3:a0 G[i]!->∀k,k<i+1->a0 G[k]!:=λh k hk=>by
  by_cases e:k=i
  .rw[e];exact h
  .exact a4 k D
 have A:¬a0 G[i]!->¬ir G:=λh q=>h (q.1 _ a2);rw[show G[i]! = G[(i:Int).toNat]! by rw[a5]] at a3 A;by_cases o1:0<=G[(i:Int).toNat]!.1
 case neg =>
  rw[bz (A (λq=>o1 q.1))];refine Yq ?_;intros;exact KX.en ⟨rfl,rfl⟩
 by_cases o2:0<=G[(i:Int).toNat]!.2.1
 case neg =>
  rw[bz (A (λq=>o2 q.2.1))];refine Yq ?_;intros;exact KX.en ⟨rfl,rfl⟩
 by_cases o3:G[(i:Int).toNat]!.2.1<=1099511627776
 case neg =>
  rw[bz (A (λq=>o3 q.2.2.1))];refine Yq ?_;intros;exact KX.en ⟨rfl,rfl⟩
 by_cases o4:1<=G[(i:Int).toNat]!.2.2
 case neg =>
  rw[bz (A (λq=>o4 q.2.2.2.1))];refine Yq ?_;intros;exact KX.en ⟨rfl,rfl⟩
 by_cases o5:G[(i:Int).toNat]!.2.2<=1099511627776 - G[(i:Int).toNat]!.2.1
 case neg =>
  rw[bz (A (λq=>o5 q.2.2.2.2))];refine Yq ?_;intros;rw[bz o5];refine Yq ?_;intros;exact KX.en ⟨rfl,rfl⟩
 refine Yq ?_;intros;rw[bO o5];refine Yq ?_;intros;refine⟨i+1,⟨D,a3 ⟨o1,o2,o3,o4,o5⟩⟩,D,?_,by exact aj⟩;rw[bJ i];exact aG
end
section
open Go.V
attribute [local irreducible] Β Y GP δ vi GF GE Z Ef C0 E CB GB V.Enters
def kw(k:Nat)(fp tp:Int->Bool)(st:Bool)(m:B1):Prop :=
 (0<=m.a1/\m.a1<k)/\(1<=m.n/\m.n<=1099511627776)/\PO m.Ν/\PO m.to/\m.Ν≠m.to/\fp m.Ν=true/\tp m.to=true/\(if st=true then kg m.Γ m.n else m.Γ.length=0)
noncomputable instance (a b c Ξ e):Decidable (kw a b c Ξ e):=Classical.propDecidable _
abbrev Bc:=Yw [.ev 17,.ev 18,.ev 19,.ev 20,.ev 21,.ev 22,.ev 23,.ev 24,.ev 25,.ev 26,.ef 27,.ev 28,.ev 29,.ev 30,.ev 31,.ev 32,.ef 33,.ev 34,.ev 35,.ev 36,.ev 37,.ev 38,.ev 39,.ev 40,.ev 41,.ev 42,.ev 43,.ev 44,.ev 45,.ev 46,.ev 47,.ef 48,.ev 49,.ev 50,.ev 51,.ev 52,.ev 53,.ev 54,.ev 55,.ef 56,.ev 57,.ev 58]
abbrev Bb:List K3:=[.ev 0,.ev 1,.ef 2,.ev 3,.ev 4,.ev 5,.ev 7,.ev 8,.ef 6,.ev 9,.ev 10,.ev 11,.ev 12,.ev 13,.ev 16,.ev 17,.ef 14,.ef 15,.ev 18,.ev 19,.ev 20]
def Qf{φ ψ:Prop}(k:ψ)(h:Hid ψ->φ:=by intro k;(repeat (first|refine ab ?_|intro B8|refine Β.dr 93 1 Bc ?_|refine Β.dr 93 5 Bb ?_));(repeat revert B8);exact Hid.out k):φ:=h ⟨k⟩
def EU{L R:Ι}{b:Nat}{d:Int}{x:Od}[hp:Pq L b SR (cJ d x) R](ff tf wf:FuncId)(fp tp:Int->Bool)(st:Bool)(hf:Um ff fp)(ht:Um tf tp)(m:J5)[hr:F5 L m.pad iK aK 3 m.m.Γ](hm:m.m.Γ.length<=9223372036854775807)(T:x.υ.B7.length<=64) :
  Υ Λ 190 #[ay b,bC (cq m),.agg #[.func (.func ff) #[] #[],.func (.func tf) #[] #[],.bool st,.func (.func wf) #[] #[]]] L (F7 (.bool (dB (kw x.υ.B7.length fp tp st m.m))) L):=by
 obtain⟨⟨Ν,to,a1,n,Γ⟩,pad,J3⟩:=m;dsimp only at hr hm;have A:∀{p:Prop},¬p->(kw x.υ.B7.length fp tp st ⟨Ν,to,a1,n,Γ⟩->p)->dB (kw x.υ.B7.length fp tp st ⟨Ν,to,a1,n,Γ⟩)=false:=λh q=>bz (λΔ=>h (q Δ));refine Υ.bd (args:=[ay b,bC (cq ⟨⟨Ν,to,a1,n,Γ⟩,pad,J3⟩),.agg #[.func (.func ff) #[] #[],.func (.func tf) #[] #[],.bool st,.func (.func wf) #[] #[]]]) ?_;by_cases I:0<=a1
 case neg =>
  refine Qf ?_;intros;exact KX.a8 aC aj ⟨by rw[A I (λh=>h.1.1)];rfl,rfl⟩
 by_cases Q:a1<x.υ.B7.length
 case neg =>
  refine Qf ?_;intros;exact KX.a8 aC aj ⟨by rw[A Q (λh=>h.1.2)];rfl,rfl⟩
 by_cases h3:1<=n
 case neg =>
  refine Qf ?_;intros;exact KX.a8 aC aj ⟨by rw[A h3 (λh=>h.2.1.1)];rfl,rfl⟩
 by_cases h4:n<=1099511627776
 case neg =>
  refine Qf ?_;intros;exact KX.a8 aC aj ⟨by rw[A h4 (λh=>h.2.1.2)];rfl,rfl⟩
 refine Qf ?_;intros;refine δ.cr (pI Ν) ?_;by_cases h5:PO Ν
 case neg =>
  rw[bz h5];refine Qf ?_;intros;exact KX.a8 aC aj ⟨by rw[A h5 (λh=>h.2.2.1)];rfl,rfl⟩
 rw[bO h5];refine Qf ?_;intros;refine δ.cr (pI to) ?_;by_cases h6:PO to
 case neg =>
  rw[bz h6];refine Qf ?_;intros;exact KX.a8 aC aj ⟨by rw[A h6 (λh=>h.2.2.2.1)];rfl,rfl⟩
 rw[bO h6];by_cases h7:Ν=to
 case pos =>
  refine Qf ?_;intros;exact KX.a8 aC aj ⟨by rw[A (λq:Ν≠to=>q h7) (λh=>h.2.2.2.2.1)];rfl,rfl⟩
 refine Qf ?_;intros;refine δ.ef (Ef.f7 rfl rfl (hf Ν _)) ac ?_;rintro _ _⟨rfl,rfl⟩;cases h8:fp Ν with
 | false =>
  refine Qf ?_;intros;exact KX.a8 aC aj ⟨by rw[A (show ¬fp Ν=true by rw[h8];decide) (λh=>h.2.2.2.2.2.1)];rfl,rfl⟩
 | true =>
 refine Qf ?_;intros;refine δ.ef (Ef.f7 rfl rfl (ht to _)) ac ?_;rintro _ _⟨rfl,rfl⟩;cases h9:tp to with
 | false =>
  refine Qf ?_;intros;exact KX.a8 aC aj ⟨by rw[A (show ¬tp to=true by rw[h9];decide) (λh=>h.2.2.2.2.2.2.1)];rfl,rfl⟩
 | true =>
 cases st with
 | false =>
  have e:kw x.υ.B7.length fp tp false ⟨Ν,to,a1,n,Γ⟩↔Γ.length=0:=⟨λh=>h.2.2.2.2.2.2.2,λh=>⟨⟨I,Q⟩,⟨h3,h4⟩,h5,h6,h7,h8,h9,h⟩⟩;refine Qf ?_;intros;refine KX.a8 aC aj ⟨?_,rfl⟩;by_cases J:Γ.length=0
  .rw[bO (D:((Γ.length:Nat):Int)=0),bO (e.2 J)];rfl
  .rw[bz (D:¬((Γ.length:Nat):Int)=0),bz (λh=>J (e.1 h))];rfl
 | true =>
 have e:kw x.υ.B7.length fp tp true ⟨Ν,to,a1,n,Γ⟩↔kg Γ n:=⟨λh=>h.2.2.2.2.2.2.2,λh=>⟨⟨I,Q⟩,⟨h3,h4⟩,h5,h6,h7,h8,h9,h⟩⟩;refine Qf ?_;intros;refine δ.cr (zh pad Γ.length J3 Γ rfl hm) ?_;by_cases c1:ir Γ
 case neg =>
  rw[bz c1];refine Qf ?_;intros;exact KX.a8 aC aj ⟨by rw[bz (λh=>c1 (e.1 h).1)];rfl,rfl⟩
 rw[bO c1];refine Qf ?_;intros;refine δ.cr (lJ pad Γ.length J3 Γ rfl c1.2 c1.1) ?_;by_cases c2:aW Γ=n
 case neg =>
  refine Qf ?_;intros;exact KX.a8 aC aj ⟨by rw[bz (λh=>c2 (e.1 h).2.2)];rfl,rfl⟩
 refine Qf ?_;intros;refine δ.ca (qs pad Γ.length J3 Γ rfl (by have:=c1.2;omega) c1.1) ?_;rintro _ _⟨a3,zc,ys,rfl,a2,rfl⟩;obtain⟨s1,s2,s3,_⟩:=xB a2 c1.1;refine Qf ?_;intros;refine δ.cr (lG a3 (NM ys).length zc (NM ys) rfl (by have:=c1.2;omega) s1.ok) ?_;refine Qf ?_;intros;refine KX.a8 aC aj ⟨?_,rfl⟩
 have e2:kw x.υ.B7.length fp tp true ⟨Ν,to,a1,n,Γ⟩↔aW (NM ys)=n:=by
  rw[e];constructor
  .rintro⟨_,q,_⟩;rw[s3.2 q,c2]
  .intro q;exact⟨c1,s3.1 (q.trans c2.symm),c2⟩
 rw[Md e2];rfl
end
end Go.Proofs.YtlgpgjdggilkgaaGreatDoor
namespace Go.V
section
variable {P:Program}{N:Nat}{env:Env}{L:Ι}{Ρ:F8}
def E.under{Φ:Ι}{p:HP}(h:E L (p::L)):E (Φ++L) (p::(Φ++L)) :=
 (E.append (E.refl Φ) h).trans (E.perm dN)
end
end Go.V
namespace Go.Proofs.YtlgpgjdggilkgaaGreatDoor
open Go.V
attribute [local irreducible] Β Y GP δ vi GF GE Z Ef C0 E CB GB V.Enters
def kF(k:Int):Int->Bool:=if k=0\/k=5 then(λn=>dB (n=0)) else if k=4\/k=10\/k=9 then(λ_=>true) else(λn=>dB (¬n=0))
def kT(k:Int):Int->Bool:=if k=1\/k=6 then(λn=>dB (n=0)) else if k=4\/k=10\/k=7 then(λ_=>true) else(λn=>dB (¬n=0))
def kS(k:Int):Bool:=if k=5\/k=7\/k=9 then true else false
def kW(k:Int):FuncId:=if k=4 then 273 else if k=10 then 274 else 271
abbrev MA(ff tf wf:FuncId)(st:Bool):Value:=.agg #[.func (.func ff) #[] #[],.func (.func tf) #[] #[],.bool st,.func (.func wf) #[] #[]]
def ze{n:Nat}{k:Int}{m:B1}(hk:0<=k/\k<=10):Tt n k m↔kw n (kF k) (kT k) (kS k) m:=by
 have eF:kF k m.Ν=true↔(if k=0\/k=5 then m.Ν=0 else if k=4\/k=10\/k=9 then True else ¬m.Ν=0):=by
  unfold kF;by_cases a:k=0\/k=5
  .rw[Ω a,Ω a,dF,decide_eq_true_iff]
  .rw[Ο a,Ο a];by_cases b:k=4\/k=10\/k=9
   .rw[Ω b,Ω b];simp
   .rw[Ο b,Ο b,dF,decide_eq_true_iff]
 have eT:kT k m.to=true↔(if k=1\/k=6 then m.to=0 else if k=4\/k=10\/k=7 then True else ¬m.to=0):=by
  unfold kT;by_cases a:k=1\/k=6
  .rw[Ω a,Ω a,dF,decide_eq_true_iff]
  .rw[Ο a,Ο a];by_cases b:k=4\/k=10\/k=7
   .rw[Ω b,Ω b];simp
   .rw[Ο b,Ο b,dF,decide_eq_true_iff]
 have eS:(if kS k=true then kg m.Γ m.n else m.Γ.length=0)↔(if k=5\/k=7\/k=9 then kg m.Γ m.n else m.Γ.length=0):=by
  unfold kS;by_cases a:k=5\/k=7\/k=9
  .rw[Ω a,Ω rfl,Ω a]
  .rw[Ο a,Ο ac,Ο a]
 unfold Tt kw rM;rw[eF,eT,eS];generalize kg m.Γ m.n=ac3;generalize m.Γ.length=pl;unfold PO;rcases (by omega:k=0\/k=1\/k=2\/k=3\/k=4\/k=5\/k=6\/k=7\/k=8\/k=9\/k=10) with rfl|rfl|rfl|rfl|rfl|rfl|rfl|rfl|rfl|rfl|rfl<;>simp<;>intros<;>omega
def KA{n:Nat}{k:Int}{m:B1}(hk:Pe k)(h5:¬k=5)(h:Tt n k m):m.Γ=[]:=by
 have I:0<=k/\k<=10:=by unfold Pe at hk;omega
 have Q:=((ze I).1 h).2.2.2.2.2.2.2;rw[show kS k=false from Ο (by unfold Pe at hk;omega),Ο ac] at Q;exact cc Q
noncomputable instance ac4 (a:List Uk) (b:D7):Decidable (nE a b):=Classical.propDecidable _
def ET{L:Ι}(k:Int)(hk:Pe k):Υ Λ 187 #[K k] L (λv Ε=>∃ff tf,v=.tuple #[MA ff tf (kW k) (kS k),.bool true]/\(Um ff (kF k)/\Um tf (kT k))/\Ε = L):=by
 rcases hk with rfl|rfl|rfl|rfl|rfl
 .refine Υ.bd (args:=[K 0]) ?_;refine ML ?_;intros;exact KX.a8 (by exact C9.cell rfl aY (C9.tmp rfl (C9.nil))) aj ⟨_,_,rfl,⟨oe,kO⟩,rfl⟩
 .refine Υ.bd (args:=[K 1]) ?_;refine ML ?_;intros;exact KX.a8 (by exact C9.cell rfl aY (C9.tmp rfl (C9.nil))) aj ⟨_,_,rfl,⟨kO,oe⟩,rfl⟩
 .refine Υ.bd (args:=[K 2]) ?_;refine ML ?_;intros;exact KX.a8 (by exact C9.cell rfl aY (C9.tmp rfl (C9.nil))) aj ⟨_,_,rfl,⟨kO,kO⟩,rfl⟩
 .refine Υ.bd (args:=[K 5]) ?_;refine ML ?_;intros;exact KX.a8 (by exact C9.cell rfl aY (C9.tmp rfl (C9.nil))) aj ⟨_,_,rfl,⟨oe,kO⟩,rfl⟩
 .refine Υ.bd (args:=[K 6]) ?_;refine ML ?_;intros;exact KX.a8 (by exact C9.cell rfl aY (C9.tmp rfl (C9.nil))) aj ⟨_,_,rfl,⟨kO,oe⟩,rfl⟩
abbrev Ba:=Yr [.ev 4,.ef 5,.ev 6,.ev 7,.ev 8,.ev 9,.ev 10,.ev 11,.ev 12,.ev 13,.ev 14,.ev 15,.ev 16,.ev 17,.ev 18,.ev 19,.ev 20,.ev 21,.ef 22,.ev 23,.ev 24,.ev 25,.ev 26,.ev 27,.ev 28,.ev 29,.ev 30,.ev 31,.ev 32,.ev 33,.ev 34,.ev 35,.ev 36]
def QA{φ ψ:Prop}(k:ψ)(h:Hid ψ->φ:=by intro k;(repeat (first|refine ab ?_|intro B8|refine Β.dr 70 2 Ba ?_));(repeat revert B8);exact Hid.out k):φ:=h ⟨k⟩
def DF{L R:Ι}{b:Nat}{d:Int}{x:Od}[hp:Pq L b SR (cJ d x) R][hr:F5 L x.K0 L9 eH 7 x.Ev](s:L9)(a4:Pe s.Ζ)[c2:F5 L s.gi J5 cq 5 s.gN](b8:∀m∈s.gN,m.m.Γ.length<=9223372036854775807)(hc:x.υ.m.Ok)(hB:x.υ.hx)(c3:x.Ev.length<=65536)(c0:s.gN.length<=1000000)(b0:s.gN.length<=s.iM)(hI:xs s.K8)(h0:0<=R8 x) :
  Υ Λ 132 #[ay b,bC (eH s)] (Oc x.υ::Nb s::L) (F7 (.bool (dB (gD x.υ.m (R8 x) s.m))) (Oc x.υ::Nb s::L)):=by
 have b6:=hB.B7;have c1:s.m.gN.length=s.gN.length:=by simp[L9.m]
 have hA:=Wc (c:=x.υ.m) (now:=R8 x) (s:=s.m);have J:∀{p:Prop},¬p->(gD x.υ.m (R8 x) s.m->p)->dB (gD x.υ.m (R8 x) s.m)=false:=λh q=>bz (λΔ=>h (q Δ));refine Υ.bd ?_;refine QA ?_;intros;rename_i b3;have hk:0<=s.Ζ/\s.Ζ<=10:=by unfold Pe at a4;omega
 refine Y.ca (ET s.Ζ a4) ?_;rintro _ _⟨ff,tf,rfl,⟨b1,b9⟩,rfl⟩;refine QA ?_;intros;rename_i b5;refine δ.cr (pI s.Rt) ?_;by_cases I:PO s.Rt
 case neg =>
  rw[bz I];refine QA ?_;intros;exact KX.a8 aC aj ⟨by rw[J I (λh=>(hA.1 h).2.1)];rfl,rfl⟩
 rw[bO I];by_cases Q:0<=s.B
 case neg =>
  refine QA ?_;intros;exact KX.a8 aC aj ⟨by rw[J Q (λh=>Int.le_trans h0 (hA.1 h).2.2.1.1)];rfl,rfl⟩
 by_cases h3:s.B<=1099511627776
 case neg =>
  refine QA ?_;intros;exact KX.a8 aC aj ⟨by rw[J h3 (λh=>(hA.1 h).2.2.1.2)];rfl,rfl⟩
 refine QA ?_;intros;refine δ.cr (Gq (b:=b) (d:=d) (x:=x) D) ?_;rw[show(x.Ev.getLast?.map (·.B)).getD 0=R8 x from rfl];by_cases h4:R8 x<=s.B
 case neg =>
  refine QA ?_;intros;exact KX.a8 aC aj ⟨by rw[J h4 (λh=>(hA.1 h).2.2.1.1)];rfl,rfl⟩
 by_cases h5:1<=s.gN.length
 case neg =>
  refine QA ?_;intros;exact KX.a8 aC aj ⟨by rw[J h5 (λh=>by have:=(hA.1 h).2.2.2.1.1;omega)];rfl,rfl⟩
 by_cases h6:s.gN.length<=64
 case neg =>
  refine QA ?_;intros;exact KX.a8 aC aj ⟨by rw[J h6 (λh=>by have:=(hA.1 h).2.2.2.1.2;omega)];rfl,rfl⟩
 refine QA ?_;intros;refine Β.loop (α:=Nat) (λi=>i<=s.gN.length/\∀j:Nat,j<i->kw x.υ.B7.length (kF s.Ζ) (kT s.Ζ) (kS s.Ζ) s.gN[j]!.m) (λi=>[(0,ay b),(3,ay b3),(4,.bool false),(5,ay b5),(53,ae s.gi s.gN.length s.iM),(54,K (s.gN.length:Int)),(55,K (i:Int))]) (λ_=>obj b5 Jv [.func (.func ff) #[] #[],.func (.func tf) #[] #[],.bool (kS s.Ζ),.func (.func (kW s.Ζ)) #[] #[]]::obj b3 jh (eH s)::Oc x.υ::Nb s::L) (λi=>s.gN.length - i) 0 ⟨aD _,λj h=>iJ h D⟩ aG (E.refl _) ?_;rintro i ⟨hi,a9⟩;by_cases b7:i<s.gN.length
 case neg =>
  have b2:i=s.gN.length:=D;subst b2
  have a5:∀m∈s.gN,kw x.υ.B7.length (kF s.Ζ) (kT s.Ζ) (kS s.Ζ) m.m:=by
   intro m hm;obtain⟨j,hj,rfl⟩:=List.mem_iff_getElem.1 hm;have:=a9 j hj
   rw[E7 hj] at this;exact this
  have a3:∀m∈s.m.gN,Tt x.υ.m.B7.length s.m.Ζ m:=by
   intro m hm;obtain⟨v,hv,rfl⟩:=H8 (show m∈s.gN.map J5.m from hm);exact(ze hk).2 (a5 v hv)
  have a6:dB (gD x.υ.m (R8 x) s.m)=dB (nE x.υ.m.rules s.m):=by
   by_cases hw:nE x.υ.m.rules s.m
   .rw[bO hw,bO (hA.2 ⟨hk,I,⟨h4,h3⟩,⟨D,D⟩,a3,hw⟩)]
   .rw[bz hw,bz (λh=>hw (hA.1 h).2.2.2.2.2)]
  rw[a6];refine QA ?_;intros;have a7:¬s.Ζ=4:=by unfold Pe at a4;omega
  have a2:¬s.Ζ=10:=by unfold Pe at a4;omega
  have e1:kW s.Ζ=271:=by unfold kW;rw[Ο a7,Ο a2]
  have e2:dB (nE x.υ.m.rules s.m)=dB (kY s.K8 s.Oi):=by
   have e:nE x.υ.m.rules s.m=kY s.K8 s.Oi:=by unfold nE;exact(Ο a7).trans (Ο a2)
   by_cases hw:kY s.K8 s.Oi
   .rw[bO hw,bO (e▸hw)]
   .rw[bz hw,bz (e▸hw)]
  rw[e1,e2];refine Y.ef (Ef.f7 rfl rfl (zq b s)) ac ?_;rintro _ _⟨rfl,rfl⟩;refine QA ?_;intros;exact KX.en ⟨rfl,rfl⟩
 have b4:(i:Int).toNat=i:=D;have A:=bI b7;refine Β.cM (Ε:=τ aK 3 s.gN[i]!.pad s.gN[i]!.m.Γ::obj b5 Jv [.func (.func ff) #[] #[],.func (.func tf) #[] #[],.bool (kS s.Ζ),.func (.func (kW s.Ζ)) #[] #[]]::obj b3 jh (eH s)::Oc x.υ::Nb s::L) ((E.at (Φ:=Nb s) (E.d8 (f:=Na) A)).trans aj) ?_;refine QA ?_;intros;rw[b4];refine Y.cr (EU (b:=b) (d:=d) (x:=x) ff tf (kW s.Ζ) (kF s.Ζ) (kT s.Ζ) (kS s.Ζ) b1 b9 s.gN[i]! (b8 _ A) b6) ?_;by_cases h7:kw x.υ.B7.length (kF s.Ζ) (kT s.Ζ) (kS s.Ζ) s.gN[i]!.m
 case neg =>
  rw[bz h7];refine QA ?_;intros;refine KX.a8 aC aj ⟨?_,rfl⟩;rw[J h7 (λh=>(ze hk).1 ((hA.1 h).2.2.2.2.1 s.gN[i]!.m (O6 A)))];rfl
 rw[bO h7];refine QA ?_;intros;refine⟨i+1,⟨D,?_⟩,D,?_,by exact aj⟩
 .intro j hj;rcases Nat.lt_or_ge j i with h|h
  .exact a9 j h
  .obtain rfl:j=i:=D;exact h7
 .rw[bJ i];exact aG
