/- Lemmas. -/
import Derived.Test.YtlgpgjdggilkgaaGreatDoorEdbf
set_option linter.all false
set_option maxHeartbeats 4000000
namespace Go.Proofs.YtlgpgjdggilkgaaGreatDoor
section
open Go.V
def nG(G:List Int):List Int:=G.mergeSort λx y=>decide (x<=y)
def ji(G:List Int):(nG G).Perm G:=List.mergeSort_perm _ _
def xS(G:List Int):(nG G).Pairwise (λa b=>a<=b):=by
 have h:=List.pairwise_mergeSort (le:=λx y:Int=>decide (x<=y)) (by intro a b c;simp;omega) (by intro a b;simp;omega) G;exact h.imp λq=>by simpa using q
def AD{G ys:List Int}(h:G.Perm ys):nG G=nG ys :=
 (((ji G).trans h).trans (ji ys).symm).eq_of_pairwise (le:=λa b=>a<=b) (λa b _ _ I Q=>D) (xS G) (xS ys)
def dZ(N:ω):List Int:=nG (N.Ψ.map (·.1)++(N.Γ.map (·.1)).filter λk=>decide ((ε N.Ψ k).isNone=true))
def Wp{N:ω}{k:Int}:k∈dZ N↔(k∈N.Ψ.map (·.1)\/k∈N.Γ.map (·.1)):=by
 unfold dZ;rw[(ji _).mem_iff,List.mem_append,List.mem_filter];constructor
 .rintro (h|h)
  .exact .inl h
  .exact .inr h.1
 .rintro (h|h)
  .exact .inl h
  .cases hg:ε N.Ψ k with
   | some x=>exact .inl (List.mem_map.2 ⟨(k,x),bR hg,rfl⟩)
   | none=>exact .inr ⟨h,by simp⟩
def pH(N:ω):(dZ N).length<=N.Ψ.length+N.Γ.length:=by
 unfold dZ;rw[(ji _).length_eq,aA,ak];have:=fD (λk=>decide ((ε N.Ψ k).isNone=true)) (N.Γ.map (·.1))
 rw[ak] at this;omega
attribute [local irreducible] Β Y GP δ vi GF GE Z Ef C0 E CB GB V.Enters bH K6
def Dx{L:Ι}(ad:OA)(cap:Nat)(G:List Int)(T:G.length<=1000000) :
  Υ Λ 126 #[ae ad G.length cap] (μ (V.eU .i64) 1 C3 ad cap G::L) (F7 (.tuple #[]) (μ (V.eU .i64) 1 C3 ad cap (nG G)::L)) :=
 Υ.d7 MD (ji G).length_eq D (λ_ w=>Tryz.slices_Sort_int_none ad cap w) (λblk w h hb=>Tryz.slices_Sort_int blk 0 cap G w h hb D)
def uB{L:Ι}(nb lb:Nat)(d F:Int)(n:G2)(hb:n.Ψ.length<=100000)(hp:n.Γ.length<=100000) :
  Υ Λ 64 #[ay nb] (fh nb lb d F n L) (λv Ε=>∃ad cap,v=ae ad (dZ n.m).length cap/\Ε = μ (eU .i64) 1 C3 ad cap (dZ n.m)::fh nb lb d F n L):=by
 refine Υ.bd ?_;simp only[fh,hl];have a6:n.m.Ψ.map (·.1)=n.Ψ.map (·.1):=jO N8.m n.Ψ;have a9:n.m.Γ.map (·.1)=n.Γ.map (·.1):=jO J6.m n.Γ;refine ML ?_;intros;refine Y.ca (zg n.mb) ?_;rintro _ _⟨bx,rfl,rfl⟩;refine ML ?_;intros;refine Y.cM (Ε:=obj bx S3 [.map (some n.mb)]::ew gT cz n.mb n.Ψ::(obj nb C5 [ay lb,K d,K F,K n.ν,K n.T,.map (some n.mb),.map (some n.mp),.map (some n.mr)]::h2 I2 n.Ψ::ew gT cC n.mp n.Γ::h2 H6 n.Γ::ew D6 bM n.mr (J7 n.wk)::L)) aj ?_;refine Y.ca (tG bx n.mb n.Ψ D) ?_;rintro _ _⟨OG,OH,ks,rfl,a4,rfl⟩;have b0:ks.length=n.Ψ.length:=by rw[a4.length_eq,ak]
 refine ML ?_;intros;refine Y.ef (Ef.j5 rfl) ac ?_;rintro _ _⟨Δ,rfl,rfl⟩;refine ML ?_;intros;refine Β.loop (α:=List (Int×J6)×OA×Nat) (λg=>g.1.length<=n.Γ.length) (λg=>[(0,ay nb),(3,ae g.2.1 (ks++(g.1.map (·.1)).filter λk=>decide ((ε n.m.Ψ k).isNone=true)).length g.2.2),(15,ay Δ)]) (λg=>μ (eU .i64) 1 C3 g.2.1 g.2.2 (ks++(g.1.map (·.1)).filter λk=>decide ((ε n.m.Ψ k).isNone=true))::fZ gT cC n.mp n.Γ Δ g.1::ew gT cz n.mb n.Ψ::obj nb C5 [ay lb,K d,K F,K n.ν,K n.T,.map (some n.mb),.map (some n.mp),.map (some n.mr)]::h2 I2 n.Ψ::h2 H6 n.Γ::ew D6 bM n.mr (J7 n.wk)::L) (λg=>n.Γ.length - g.1.length) ([],OG,OH) (aD _) ?_ ?_ ?_
 .dsimp only;rw[bu,List.filter_nil,aJ];exact aG
 .dsimp only;rw[bu,List.filter_nil,aJ];exact aj
 rintro⟨z,J,A⟩ hz;dsimp only at hz ⊢
 have b5:(ks++(z.map (·.1)).filter λk=>decide ((ε n.m.Ψ k).isNone=true)).length<=200000:=by
  have:=fD (λk=>decide ((ε n.m.Ψ k).isNone=true)) (z.map (·.1))
  rw[ak] at this;rw[aA];omega
 refine ML ?_;intros;refine Y.ef (Ef.j8 rfl) ac ?_;rintro _ _ (⟨rfl,rfl,b1⟩|⟨p,rfl,rfl,b3,b4,b2⟩)
 .have a3:nG (ks++(z.map (·.1)).filter λk=>decide ((ε n.m.Ψ k).isNone=true))=dZ n.m:=by
   unfold dZ;refine AD ?_;rw[a6,a9];exact a4.append ((b1.map _).filter _)
  have a7:(dZ n.m).length=(ks++(z.map (·.1)).filter λk=>decide ((ε n.m.Ψ k).isNone=true)).length:=by rw[<-a3,(ji _).length_eq]
  generalize (ks++(z.map (·.1)).filter λk=>decide ((ε n.m.Ψ k).isNone=true))=zs at *;refine ML ?_;intros;refine Y.cM (E.at (Φ:=μ (eU .i64) 1 C3 J A zs) (E.refl _)) ?_;refine Y.cr (Dx J A zs D) ?_;rw[a3];refine ML ?_;intros;refine KX.a8 aC ?_ ⟨J,A,by rw[a7];rfl,rfl⟩;refine(E.at (Φ:=fZ gT cC n.mp n.Γ Δ z) E.j9).trans ?_;exact aj
 refine ML ?_;intros;refine Y.ev (Z.j7 (done:=z) rfl rfl) ac ?_;refine ML ?_;intros;refine Y.ev (Z.j6 rfl rfl) ac ?_;cases hg:List.lookup p.1 n.Ψ with
 | some x =>
  have T:ε n.m.Ψ p.1=some x.m:=by rw[fX,hg];rfl
  have hf:((z++[p]).map (·.1)).filter (λk=>decide ((ε n.m.Ψ k).isNone=true))=(z.map (·.1)).filter λk=>decide ((ε n.m.Ψ k).isNone=true):=by
   rw[aQ,List.filter_append];simp[T]
  dsimp only[Option.map,Option.getD,cz];refine ML ?_;intros;refine⟨(z++[p],J,A),by simp;omega,by simp;omega,?_,?_⟩
  .dsimp only;rw[hf];exact aG
  .dsimp only;rw[hf];exact aj
 | none =>
  have T:ε n.m.Ψ p.1=none:=by rw[fX,hg];rfl
  have hf:ks++((z++[p]).map (·.1)).filter (λk=>decide ((ε n.m.Ψ k).isNone=true))=(ks++(z.map (·.1)).filter λk=>decide ((ε n.m.Ψ k).isNone=true))++[p.1]:=by
   rw[aQ,List.filter_append,aF];simp[T]
  dsimp only[Option.map,Option.getD];refine ML ?_;intros;refine Y.ef (Ef.a8 (Η:=eU .i64) (e:=p.1) rfl rfl rfl rfl rfl aY (iq _ _) D D) ac ?_;rintro _ _⟨a5,a2,rfl,rfl⟩;rw[<-hf];refine ML ?_;intros;refine⟨(z++[p],a5,a2),by simp;omega,by simp;omega,aG,by exact aj⟩
end
section
open Go.V
attribute [local irreducible] Β Y GP δ vi Z Ef C0 E CB GB V.Enters
def Aq(g:FuncId)(cap:χ)(p:Int->Prop)[DecidablePred p](C:HP):Prop:=∀(n:Int) (L:Ι),Υ Λ g (([]++[Value.int .i64 n]++cap:χ)).toArray (C::L) (F7 (.bool (dB (p n))) (C::L))
def BO{L:Ι}(g:FuncId)(cap:χ)(p:Int->Prop)[DecidablePred p](C:HP)(hg:Aq g cap p C)(ad:OA)(c:Nat)(G:List Int)[hr:F5 (C::L) ad Int (eU .i64) 1 G](T:G.length<=1000000) :
  Υ Λ 123 #[ae ad G.length c,.func (.func g) #[] cap.toArray] (C::L) (λv Ε=>∃i:Int,v=K i/\((i = -1/\∀k,k<G.length->¬p G[k]!)\/∃k:Nat,i=k/\k<G.length/\p G[k]!/\∀j,j<k->¬p G[j]!)/\Ε = C::L):=by
 refine Υ.bd ?_;refine ML ?_;intros;refine Β.loop (α:=Nat) (λi=>i<=G.length/\∀j,j<i->¬p G[j]!) (λi=>[(0,ae ad G.length c),(1,.func (.func g) #[] cap.toArray),(7,K (G.length:Int)),(8,K (i:Int))]) (λ_=>C::L) (λi=>G.length - i) 0 ⟨aD _,λj hj=>D⟩ aG (E.refl _) ?_;rintro i ⟨hi,hb⟩;by_cases J:i<G.length
 case neg =>
  obtain rfl:i=G.length:=D;refine ML ?_;intros;exact KX.en ⟨-1,rfl,.inl ⟨rfl,hb⟩,rfl⟩
 have A:(i:Int).toNat=i:=D;refine ML ?_;intros;rw[A];refine Y.ef (Ef.f7 rfl rfl (hg G[i]! _)) ac ?_;rintro _ _⟨rfl,rfl⟩;by_cases hp:p G[i]!
 .rw[bO hp];refine ML ?_;intros;exact KX.en ⟨i,rfl,.inr ⟨i,rfl,J,hp,hb⟩,rfl⟩
 .rw[bz hp];refine ML ?_;intros;refine⟨i+1,⟨D,?_⟩,D,?_,E.refl _⟩
  .intro j hj;rcases Nat.lt_or_ge j i with h|h
   .exact hb j h
   .obtain rfl:j=i:=D;exact hp
  .rw[bJ i];exact aG
def kr(p:Int->Prop)[DecidablePred p](G:List Int):List Int:=G.filter λx=>!dB (p x)
def wz{p:Int->Prop}[DecidablePred p]{G:List Int}(h:∀k,k<G.length->¬p G[k]!):kr p G=G:=by
 unfold kr;rw[List.filter_eq_self];intro a ha;obtain⟨k,hk,rfl⟩:=List.mem_iff_getElem.1 ha;have:=h k hk
 rw[E7 hk] at this;rw[bz this];rfl
def lh{p:Int->Prop}[DecidablePred p]{G:List Int}{j:Nat}(h:j<G.length):kr p (G.take (j+1))=kr p (G.take j)++(if p G[j]! then[] else[G[j]!]):=by
 unfold kr;rw[aB h,List.filter_append,<-E7 h];congr 1;generalize G[j]! = v;by_cases hp:p v
 .rw[Ω hp];simp[bO hp]
 .rw[Ο hp];simp[bz hp]
def zY{L:Ι}(g:FuncId)(cap:χ)(p:Int->Prop)[DecidablePred p](C:HP)(hg:Aq g cap p C)(ad:OA)(c:Nat)(G:List Int)(T:G.length<=1000000) :
  Υ Λ 63 #[ae ad G.length c,.func (.func g) #[] cap.toArray] (C::μ (eU .i64) 1 C3 ad c G::L) (F7 (ae ad (kr p G).length c) (C::μ (eU .i64) 1 C3 ad c (kr p G)::L)):=by
 refine Υ.bd ?_;refine Β.c8 (mS (ad:=ad)) ?_;rintro⟨b2,_⟩;refine ML ?_;intros;refine Y.ca (BO g cap p C hg ad c G T) ?_;rintro _ _⟨z,rfl,(⟨rfl,hz⟩|⟨i0,rfl,a2,b0,a3⟩),rfl⟩
 .rw[wz hz];refine ML ?_;intros;exact KX.en ⟨rfl,rfl⟩
 have a7:kr p (G.take i0)=G.take i0:=wz (λk hk=>by
  have a6 : k<i0:=by rw[aP] at hk;omega
  rw[E7 hk,List.getElem_take,<-E7 D];exact a3 k a6)
 refine ML ?_;intros;refine Β.loop (α:=Nat×Nat×List Int) (λz=>z.1<z.2.1/\z.2.1<=G.length/\z.2.2.length=G.length/\z.2.2.take z.1=kr p (G.take z.2.1)/\z.2.2.drop z.2.1=G.drop z.2.1) (λz=>[(0,ae ad G.length c),(1,.func (.func g) #[] cap.toArray),(5,K (z.1:Int)),(6,K (z.2.1:Int))]) (λz=>C::μ (eU .i64) 1 C3 ad c z.2.2::L) (λz=>G.length - z.2.1) (i0,i0+1,G) ⟨Nat.lt_succ_self _,a2,rfl,by rw[lh a2,Ω b0,a7,aJ],rfl⟩ aG (E.refl _) ?_;rintro⟨i,j,ys⟩ ⟨I,Q,h3,h4,h5⟩;dsimp only at I Q h3 h4 h5 ⊢;by_cases A:j<G.length
 case neg =>
  obtain rfl:j=G.length:=D;rw[cK] at h4;have a9:(kr p G).length=i:=by rw[<-h4,aP];omega
  refine ML ?_;intros;refine Y.No (Ef.l9 (i:=i) (G:=ys) rfl D (by simp[Value.oneCell'])) ?_;rintro _ _⟨rfl,rfl⟩;rw[h4];refine ML ?_;intros;exact KX.a8 aC aj ⟨by rw[a9];show Value.slice ad (i:Int).toNat c=_;rw[bB],rfl⟩
 have a5:(j:Int).toNat=j:=D
 have b1:ys[j]! = G[j]!:=by
  have e:=congrArg (λl=>l[0]?) h5;simp only[List.getElem?_drop,dw] at e;rw[List.getElem?_eq_getElem D,List.getElem?_eq_getElem A] at e;rw[E7 D,E7 A];simpa using e
 refine ML ?_;intros;rw[a5,b1];refine Y.ef (Ef.f7 rfl rfl (hg G[j]! _)) ac ?_;rintro _ _⟨rfl,rfl⟩
 have J:∀zs:List Int,zs.drop j=G.drop j->zs.drop (j+1)=G.drop (j+1):=λzs h=>by
  have:=congrArg (List.drop 1) h
  simpa [List.drop_drop] using this
 by_cases hp:p G[j]!
 .rw[bO hp];refine ML ?_;intros;refine⟨(i,j+1,ys),⟨by dsimp only;omega,by dsimp only;omega,h3,?_,J ys h5⟩,by dsimp only;omega,?_,E.refl _⟩
  .dsimp only;rw[lh A,Ω hp,aJ];exact h4
  .dsimp only;rw[bJ j];exact aG
 .rw[bz hp];have a4:(i:Int).toNat=i:=D;refine ML ?_;intros;rw[a4];refine⟨(i+1,j+1,ys.set i G[j]!),⟨by dsimp only;omega,by dsimp only;omega,by dsimp only;rw[bU];exact h3,?_,?_⟩,by dsimp only;omega,?_,by exact aj⟩
  .dsimp only;rw[lh A,Ο hp,<-h4,aB (by rw[bU];omega),List.getElem_set_self,List.take_set_of_le (ax _)]
  .dsimp only;rw[List.drop_set_of_lt D];exact J ys h5
  .dsimp only;rw[bJ j,bJ i];exact aG
end
section
open Go.V
abbrev Rb:Nat:=62
noncomputable def ko(N:ω):List Int:=(dZ N).filter (ge N)
attribute [local irreducible] Β Y GP δ vi GF GE Z Ef C0 E CB GB V.Enters bH K6
def Gi(nb lb:Nat)(d F:Int)(n:G2)(b1:Nat)(J:∀p∈n.Γ,p.2.Α.length<=1000):Aq 65 [ay b1] (λk=>ge n.m k=false) (cw (obj b1 Rb [ay nb]::fh nb lb d F n [])):=λk L=>by
 refine Υ.bd (args:=[K k,ay b1]) ?_;refine Β.cM E.SL ?_;rw[show obj b1 Rb [ay nb]::fh nb lb d F n []++L=obj b1 Rb [ay nb]::fh nb lb d F n L from rfl];refine ML ?_;intros;refine Y.cM (Ε:=fh nb lb d F n (obj b1 Rb [ay nb]::L)) (by simp only[fh,hl];exact aj) ?_;refine Y.cr (BN nb lb d F n k J) ?_
 have A:E (fh nb lb d F n (obj b1 Rb [ay nb]::L)) (cw (obj b1 Rb [ay nb]::fh nb lb d F n [])::L):=by
  refine E.trans (hx:=(obj b1 Rb [ay nb]::fh nb lb d F n [])++L) ?_ E.f8;show E _ (obj b1 Rb [ay nb]::fh nb lb d F n L);simp only[fh,hl];exact aj
 cases hb:ge n.m k with
 | true =>
  refine ML ?_;intros;refine KX.a8 aC A ⟨?_,rfl⟩;exact congrArg Value.bool (bz (p:=ge n.m k=false) (by rw[hb];decide)).symm
 | false =>
  refine ML ?_;intros;refine KX.a8 aC A ⟨?_,rfl⟩;exact congrArg Value.bool (bO (p:=ge n.m k=false) hb).symm
def qF{L:Ι}(nb lb:Nat)(d F:Int)(n:G2)(hb:n.Ψ.length<=100000)(hp:n.Γ.length<=100000)(J:∀p∈n.Γ,p.2.Α.length<=1000) :
  Υ Λ 24 #[ay nb] (fh nb lb d F n L) (λv Ε=>∃ad cap,v=ae ad (ko n.m).length cap/\Ε = μ (eU .i64) 1 C3 ad cap (ko n.m)::fh nb lb d F n L):=by
 have a4:=pH n.m;have a3:n.m.Ψ.length=n.Ψ.length:=ak _;have a2:n.m.Γ.length=n.Γ.length:=ak _;refine Υ.bd ?_;refine ML ?_;intros;rename_i b1;refine Y.cM (Ε:=fh nb lb d F n (obj b1 Rb [ay nb]::L)) (by simp only[fh,hl];exact aj) ?_;refine Y.ca (uB nb lb d F n hb hp) ?_;rintro _ _⟨OG,OH,rfl,rfl⟩;refine ML ?_;intros;refine Y.cM (Ε:=cw (obj b1 Rb [ay nb]::fh nb lb d F n [])::μ (eU .i64) 1 C3 OG OH (dZ n.m)::L) ?_ ?_
 .refine E.trans (hx:=(obj b1 Rb [ay nb]::fh nb lb d F n [])++(μ (eU .i64) 1 C3 OG OH (dZ n.m)::L)) ?_ E.f8;show E _ (obj b1 Rb [ay nb]::fh nb lb d F n (μ (eU .i64) 1 C3 OG OH (dZ n.m)::L));simp only[fh,hl];exact aj
 refine Y.ca (zY _ [ay b1] (λk=>ge n.m k=false) _ (Gi nb lb d F n b1 J) OG OH (dZ n.m) D) ?_
 have A:kr (λk=>ge n.m k=false) (dZ n.m)=ko n.m:=by
  unfold kr ko;refine List.filter_congr λk _=>?_;show(!dB (ge n.m k=false))=ge n.m k;by_cases h:ge n.m k=false
  .rw[bO h,h];rfl
  .rw[bz h];cases M:ge n.m k with
   | true=>rfl
   | false=>exact iJ M h
 rw[A];rintro _ _⟨rfl,rfl⟩;refine ML ?_;intros;refine KX.a8 aC ?_ ⟨OG,OH,rfl,rfl⟩;refine E.SL.trans ?_;rw[show(obj b1 Rb [ay nb]::fh nb lb d F n [])++(μ (eU .i64) 1 C3 OG OH (ko n.m)::L)=obj b1 Rb [ay nb]::fh nb lb d F n (μ (eU .i64) 1 C3 OG OH (ko n.m)::L) from rfl];simp only[fh,hl];exact aj
end
section
open Go.V
def Qo(F r:Int):Prop:=(0<=r / 4294967296/\r / 4294967296<F)/\r % 4294967296<64
def Qo.i64{F r:Int}(h:Qo F r)(hs:F<=12):xs r:=by
 obtain⟨⟨I,Q⟩,h3⟩:=h;unfold xs;omega
theorem yW{F:Int}{l:List Int}(hn:l.Nodup)(h:∀r∈l,Qo F r):l.length<=64*F.toNat:=by
 have I:=jn (m:=(List.range (64*F.toNat)).map λ (k:Nat)=>((k / 64:Nat):Int)*4294967296+((k % 64:Nat):Int)) hn λr A=>by
  obtain⟨⟨q1,q2⟩,q3⟩:=h r A;have q4:0<=r % 4294967296:=D;refine List.mem_map.2 ⟨(r / 4294967296).toNat*64+(r % 4294967296).toNat,List.mem_range.2 D,?_⟩;omega
 grind
def Rz(F:Int)(l:x4):Prop:=0<=l.ts/\l.ts<F
structure QH (F:Int) (y:fK):Prop where
 kd:1<=y.ct.Ζ
 r:Qo F y.ct.r
 ts:∀l∈y.ct.Α,Rz F l
 am:Nu y.ct.Α<=12
 Ν:0<=y.Ν/\y.Ν<F
 to:0<=y.to/\y.to<F
structure Zp (F r:Int) (x:K4):Prop where
 ok:Wl x
 r:Qo F r
 ts:∀l∈x.Α,Rz F l
 am:Nu x.Α<=12
 gv:∀g∈x.lq,0<=g/\g<F
structure Xx (F r:Int) (p:Nl):Prop where
 r:Qo F r
 ts:∀o∈p.Α,Rz F o.Χ/\o.Χ.am.length<=12
structure Qp (d F:Int) (N:ω):Prop where
 ν:0<=N.ν
 nb:(N.Ψ.map (·.1)).Nodup
 np:(N.Γ.map (·.1)).Nodup
 ex:∀p∈N.Ψ,Zp F p.1 p.2
 pt:∀p∈N.Γ,Xx F p.1 p.2
 fr:∀p∈N.Ψ,p.1<d*4294967296+N.ν
structure HX (d F:Int) (N:ω) (Δ:L6):Prop where
 nd:Qp d F Δ.2.1
 O:∀y∈Δ.1,QH F y
 ν:Δ.2.1.ν=N.ν
theorem HX.same{d F:Int}{N:ω}{S:Τ}(h:Qp d F N):HX d F N ([],N,S):=⟨h,ah,rfl⟩
theorem Qp.J2{d F r:Int}{N:ω}(h:Qp d F N){x y:K4}(hg:ε N.Ψ r=some x)(I:y.Α=x.Α)(Q:y.lq=x.lq)(h3:y.C7=x.C7):Qp d F { N with Ψ:=ez N.Ψ r y }:=by
 have M:=h.ex _ (bR hg);refine⟨h.ν,iE h.nb,h.np,λp hp=>?_,h.pt,λp hp=>?_⟩
 .rcases jR hp with rfl|hp
  .refine⟨⟨?_,?_,?_,?_,?_⟩,M.r,?_,?_,?_⟩
   .rw[I];exact M.ok.Α
   .rw[I];exact M.ok.lg
   .rw[Q];exact M.ok.gl
   .rw[Q];exact M.ok.gv
   .rw[h3];exact M.ok.un
   .rw[I];exact M.ts
   .rw[I];exact M.am
   .rw[Q];exact M.gv
  .exact h.ex p hp
 .rcases jR hp with rfl|hp
  .have q:=h.fr _ (bR hg);exact q
  .exact h.fr p hp
theorem Qp.K5{d F r:Int}{N:ω}(h:Qp d F N){p:Nl}(hp:Xx F r p)(k:Int):Qp d F { N with T:=k,Γ:=ez N.Γ r p } :=
 ⟨h.ν,h.nb,iE h.np,h.ex,λq hq=>by
  rcases jR hq with rfl|hq
  .exact hp
  .exact h.pt q hq,h.fr⟩
theorem Tu{d F to Ζ r ai:Int}{yes:Bool}(h0:1<=Ζ)(I:Qo F r)(Q:0<=d/\d<F)(h3:0<=to/\to<F):QH F ⟨d,to,D4 Ζ r ai yes⟩ :=
 ⟨h0,I,λl h=>iJ h aH,aD _,Q,h3⟩
theorem oZ{d F:Int}{gs W:List Int}{ct:G4}(h0:1<=ct.Ζ)(I:Qo F ct.r)(Q:0<=d/\d<F)(h3:∀g∈gs,0<=g/\g<F)(h4:∀l∈ct.Α,Rz F l)(h5:Nu ct.Α<=12):∀y∈ck d gs W ct,QH F y:=λy U=>by
 unfold ck at U;obtain⟨g,hg,rfl⟩:=H8 U;exact⟨h0,I,h4,h5,Q,ah⟩
theorem Wq{d r cN Κ B:Int}{o:hD}{S:Τ}:(bY d r cN Κ B o S).2.1.Χ=o.Χ/\∀y∈(bY d r cN Κ B o S).1,y.Ν=d/\y.to=o.Χ.ts/\y.ct.r=r/\y.ct.Α=[o.Χ]/\y.ct.Ζ=5:=by
 by_cases h0:o.state=0
 .by_cases hB:cN=1/\o.Χ.ts≠d
  .rw[kB h0 hB];split
   .refine⟨rfl,λy U=>?_⟩;obtain rfl:=GO U;exact⟨rfl,rfl,rfl,rfl,rfl⟩
   grind
  .obtain⟨to,ht⟩:∃to,to=if cN=2 then o.Χ.fr else o.Χ.to:=⟨_,rfl⟩;rw[ja h0 hB ht];grind
 grind [jS]
theorem Wr{d F r:Int}{o:hD}{y:fK}(hi:Qo F r)(hs:0<=d/\d<F)(ho:Rz F o.Χ/\o.Χ.am.length<=12)(h:y.Ν=d/\y.to=o.Χ.ts/\y.ct.r=r/\y.ct.Α=[o.Χ]/\y.ct.Ζ=5):QH F y:=by
 obtain⟨I,Q,h3,h4,h5⟩:=h;refine⟨D,ah,λl T=>?_,?_,D,by rw[Q];exact ho.1⟩
 .grind
 .rw[h4];show o.Χ.am.length+0<=12;exact ho.2
theorem Cc{d F r cN Κ B:Int}(hi:Qo F r)(hs:0<=d/\d<F):∀{os:List hD} {S:Τ},(∀o∈os,Rz F o.Χ/\o.Χ.am.length<=12)->(∀o∈(cG d r cN Κ B os S).2.1,Rz F o.Χ/\o.Χ.am.length<=12)/\∀y∈(cG d r cN Κ B os S).1,QH F y
 | [],S,_=>⟨λo h=>iJ h aH,λy h=>iJ h aH⟩
 | o::os,S,ho=>by
  obtain⟨I,Q⟩:=Wq (d:=d) (r:=r) (cN:=cN) (Κ:=Κ) (B:=B) (o:=o) (S:=S);obtain⟨h3,h4⟩:=Cc (cN:=cN) (Κ:=Κ) (B:=B) hi hs (os:=os) (S:=(bY d r cN Κ B o S).2.2) ah;grind [cG,Wr]
def Gf{d F:Int}:∀{k:Int} {ls:List x4},(∀l∈ls,Rz F l/\l.am.length<=12)->∀o∈B6 d k ls,Rz F o.Χ/\o.Χ.am.length<=12
 | _,[],_,o,h=>iJ h aH
 | k,l::ls,T,o,h=>by
  have ih:=Gf (d:=d) (k:=k+1) (ls:=ls) (λx M=>T x (az _ M)) o;have e1:B6 d k (l::ls)=if l.d=d then⟨l,k,0,[]⟩::B6 d (k+1) ls else B6 d (k+1) ls:=rfl;rw[e1] at h;split at h
  .rcases L7 h with rfl|h
   .exact T l au
   .exact ih h
  .exact ih h
theorem CL{d F E0 B:Int}{m:G4}{N:ω}{S:Τ}(hs:0<=d/\d<F)(hN:Qp d F N)(hi:Qo F m.r)(ht:∀l∈m.Α,Rz F l)(ha:Nu m.Α<=12)(hf:0<=E0/\E0<F):HX d F N (aX d E0 m B N S):=by
 have A:0<=bX m.r/\bX m.r<F:=hi.1;unfold aX;split
 .unfold eM;cases T:ε N.Γ m.r with
  | some p=>exact⟨hN,by grind [Tu],rfl⟩
  | none =>
   dsimp only;split
   .refine⟨hN.K5 ⟨hi,Gf λl T=>⟨ht l T,aO (vQ T) ha⟩⟩ _,by grind [Tu],rfl⟩
   .exact⟨hN.K5 ⟨hi,ah⟩ _,by grind [Tu],rfl⟩
 split
 .unfold eu;cases T:ε N.Ψ m.r with
  | none=>exact HX.same hN
  | some x =>
   have M:=hN.ex _ (bR T);have tl:∀b:Bool,∀y∈ck d x.lq [] (D4 3 m.r 0 b),QH F y:=λb=>oZ (show(1:Int)<=3 by decide) hi hs M.gv (λl h=>iJ h aH) (aD _);dsimp only;split
   .exact HX.same hN
   .split
    .exact⟨hN.J2 T rfl rfl rfl,tl _,rfl⟩
    .split
     .exact⟨hN.J2 T rfl rfl rfl,ah,rfl⟩
     .exact⟨hN.J2 T rfl rfl rfl,tl _,rfl⟩
 split
 .unfold dq;cases T:ε N.Γ m.r with
  | none=>exact⟨hN.K5 ⟨hi,ah⟩ _,by grind [Tu],rfl⟩
  | some p =>
   have hp:=hN.pt _ (bR T);dsimp only;split
   .obtain⟨w1,w2⟩:=Cc (cN:=if m.yes=true then 1 else 2) (Κ:=p.Κ) (B:=B) hi hs (os:=p.Α) (S:=S) hp.ts;refine⟨hN.K5 ⟨hi,w1⟩ _,λy U=>?_,rfl⟩;grind [Tu]
   .exact⟨hN,by grind [Tu],rfl⟩
 split
 .unfold gd ω.J2;cases T:ε N.Ψ m.r with
  | none=>exact HX.same hN
  | some x=>exact⟨hN.J2 T rfl rfl rfl,ah,rfl⟩
 split
 .unfold dS;split
  .exact⟨hN,by grind [Tu],rfl⟩
  .split
   .split
    .exact⟨⟨hN.ν,hN.nb,hN.np,hN.ex,hN.pt,hN.fr⟩,by grind [Tu],rfl⟩
    .exact HX.same hN
   .exact HX.same hN
 split
 .unfold OI ω.K5;cases T:ε N.Γ m.r with
  | none=>exact HX.same hN
  | some p =>
   have hp:=hN.pt _ (bR T);refine⟨hN.K5 ⟨hi,λo ho=>?_⟩ _,ah,rfl⟩;obtain⟨q,hq,rfl⟩:=H8 ho;have J:=hp.ts q hq;grind [eY]
 exact HX.same hN
def zM{d F:Int}{f:fK->ω->Τ->L6}(hf:∀m N S,QH F m->Qp d F N->HX d F N (f m N S)):∀(l:List fK) (N:ω) (S:Τ),(∀m∈l,QH F m)->Qp d F N->HX d F N (bT f l N S)
 | [],N,S,_,hN=>HX.same hN
 | m::l,N,S,hP,hN=>by
  have I:=hf m N S (hP m au) hN;have Q:=zM hf l _ (f m N S).2.2 (λx M=>hP x (az _ M)) I.nd;simp only[bT];refine⟨Q.nd,λy U=>?_,Q.ν.trans I.ν⟩;rcases J4 U with U|U
  .exact I.O y U
  .exact Q.O y U
def Cu{d F B:Int}(hs:0<=d/\d<F):∀(Ξ:Nat) (m:fK) (N:ω) (S:Τ),QH F m->Qp d F N->HX d F N (bH d B Ξ m N S)
 | 0,m,N,S,_,hN=>HX.same hN
 | Ξ+1,m,N,S,hm,hN=>by
  unfold bH;by_cases ht:m.to=d
  .rw[Ο (λq=>q ht)];have I:=CL (B:=B) (S:=S) hs hN hm.r hm.ts hm.am hm.Ν;have Q:=zM (f:=bH d B Ξ) (λy N' S' U A=>Cu (B:=B) hs Ξ y N' S' U A) _ _ (aX d m.Ν m.ct B N S).2.2 I.O I.nd;exact⟨Q.nd,Q.O,Q.ν.trans I.ν⟩
  .rw[Ω ht];refine⟨hN,λy U=>?_,rfl⟩;obtain rfl:=GO U;exact hm
def Hh{d F B:Int}{l:List fK}{N:ω}{S:Τ}(hs:0<=d/\d<F)(T:∀m∈l,QH F m)(hN:Qp d F N):HX d F N (K6 d B l N S):=zM (λm N' S' hm A=>Cu hs 7 m N' S' hm A) l N S T hN
def Ki{d F B:Int}{x:fK}{N:ω}{S:Τ}(hs:0<=d/\d<F)(M:QH F x)(hN:Qp d F N):HX d F N (dM d F x B N S):=by
 unfold dM;split
 .have I:=CL (B:=B) (S:=S) hs hN M.r M.ts M.am M.Ν;have Q:=Hh (B:=B) (S:=(aX d x.Ν x.ct B N S).2.2) hs I.O I.nd;exact⟨Q.nd,Q.O,Q.ν.trans I.ν⟩
 .exact HX.same hN
def OJ(d:Int)(N:ω)(r:Int):Prop:=∀x,ε N.Ψ r=some x->d∈x.lq->d∈x.I8\/x.dec=true
theorem OJ.J2{d r k:Int}{N:ω}{x y:K4}(h:OJ d N k)(hg:ε N.Ψ r=some x)(Q:y.lq=x.lq)(h4:(d∈x.I8\/x.dec=true)->d∈y.I8\/y.dec=true):OJ d { N with Ψ:=ez N.Ψ r y } k:=λz hz hm=>by
 have A:ε (ez N.Ψ r y) k=some z:=hz;rw[cF] at A;split at A
 .rename_i q;subst q;obtain rfl:y=z:=by simpa using A
  rw[Q] at hm;exact h4 (h x hg hm)
 .exact h z A hm
def OJ.of{d k:Int}{N N' : ω}(h:OJ d N k)(e:N'.Ψ=N.Ψ):OJ d N' k:=by
 unfold OJ;rw[e];exact h
theorem Jr{l:List Int}{a b:Int}(h:b∈l):b∈ND l a:=by
 grind [ND]
theorem HD{l:List Int}{a:Int}:a∈ND l a:=by
 grind [ND]
theorem sb(d B:Int)(m:G4)(N:ω)(S:Τ):∃b N' S',eM d m B N S=([⟨d,bX m.r,D4 2 m.r 0 b⟩],N',S')/\N'.Ψ=N.Ψ:=by
 unfold eM;cases ε N.Γ m.r with
 | some p=>grind
 | none =>
  dsimp only;split
  .grind
  grind
theorem zB{d E0 B k:Int}{m:G4}{N:ω}{S:Τ}(h:OJ d N k):OJ d (aX d E0 m B N S).2.1 k:=by
 unfold aX;split
 .obtain⟨b,N',S',e,q⟩:=sb d B m N S;rw[e];exact h.of q
 split
 .unfold eu;cases T:ε N.Ψ m.r with
  | none=>exact h
  | some x =>
   dsimp only;split
   .exact h
   .split
    .exact h.J2 T rfl λ_=>.inr rfl
    .split
     .exact h.J2 T rfl λq=>q.imp Jr id
     .exact h.J2 T rfl λ_=>.inr rfl
 split
 .unfold dq;cases T:ε N.Γ m.r with
  | none=>exact h.of rfl
  | some p =>
   dsimp only;split
   .exact h.of rfl
   .exact h
 split
 .unfold gd ω.J2;cases T:ε N.Ψ m.r with
  | none=>exact h
  | some x=>exact h.J2 T rfl λq=>q
 split
 .unfold dS;split
  .exact h
  .split
   .split
    .exact h.of rfl
    .exact h
   .exact h
 split
 .unfold OI ω.K5;cases T:ε N.Γ m.r with
  | none=>exact h
  | some p=>exact h.of rfl
 exact h
theorem oS{α:Type}{d k:Int}{f:α->ω->Τ->L6}(hf:∀m N S,OJ d N k->OJ d (f m N S).2.1 k):∀(l:List α) (N:ω) (S:Τ),OJ d N k->OJ d (bT f l N S).2.1 k
 | [],N,S,h=>h
 | m::l,N,S,h=>oS hf l (f m N S).2.1 (f m N S).2.2 (hf m N S h)
theorem pA{d B k:Int}:∀(Ξ:Nat) (m:fK) (N:ω) (S:Τ),OJ d N k->OJ d (bH d B Ξ m N S).2.1 k
 | 0,m,N,S,h=>h
 | Ξ+1,m,N,S,h=>by
  unfold bH;split
  .exact h
  .exact oS (λy N' S' h'=>pA Ξ y N' S' h') _ _ _ (zB h)
theorem vM{d B k:Int}{l:List fK}{N:ω}{S:Τ}(h:OJ d N k):OJ d (K6 d B l N S).2.1 k:=oS (λy N' S' h'=>pA 7 y N' S' h') l N S h
theorem If{d F B k:Int}{x:fK}{N:ω}{S:Τ}(h:OJ d N k):OJ d (dM d F x B N S).2.1 k:=by
 grind [dM,vM,zB]
theorem Dj{d B r:Int}{b:Bool}{N:ω}{S:Τ}{x:K4}(M:ε N.Ψ r=some x):OJ d (eu d d (D4 2 r 0 b) B N S).2.1 r:=by
 have hg:∀y:K4,(d∈y.I8\/y.dec=true)->OJ d { N with Ψ:=ez N.Ψ r y } r:=λy U z hz _=>by
  have A:ε (ez N.Ψ r y) r=some z:=hz;rw[cF,Ω rfl] at A;obtain rfl:y=z:=by simpa using A
  exact U
 unfold eu;rw[show(D4 2 r 0 b).r=r from rfl,M];dsimp only;split
 .rename_i hd;intro z hz _;grind
 .split
  .exact hg _ (.inr rfl)
  .split
   .exact hg _ (.inl HD)
   .exact hg _ (.inr rfl)
theorem Gc{d B r:Int}{ls:List x4}{N:ω}{S:Τ}{x:K4}(A:bX r=d)(M:ε N.Ψ r=some x):OJ d (bH d B 7 ⟨d,d,⟨1,r,0,false,ls,[]⟩⟩ N S).2.1 r:=by
 obtain⟨b,N',S',e,q⟩:=sb d B ⟨1,r,0,false,ls,[]⟩ N S
 have I:aX d d ⟨1,r,0,false,ls,[]⟩ B N S=([⟨d,d,D4 2 r 0 b⟩],N',S'):=by
  unfold aX;rw[Ω rfl,e,show bX (⟨1,r,0,false,ls,[]⟩:G4).r=d from A]
 have Q:bH d B 7 ⟨d,d,⟨1,r,0,false,ls,[]⟩⟩ N S=bT (bH d B 6) (aX d d ⟨1,r,0,false,ls,[]⟩ B N S).1 (aX d d ⟨1,r,0,false,ls,[]⟩ B N S).2.1 (aX d d ⟨1,r,0,false,ls,[]⟩ B N S).2.2:=by
  rw[bH];exact ah
 have h3:bH d B 6 ⟨d,d,D4 2 r 0 b⟩ N' S' = bT (bH d B 5) (aX d d (D4 2 r 0 b) B N' S').1 (aX d d (D4 2 r 0 b) B N' S').2.1 (aX d d (D4 2 r 0 b) B N' S').2.2:=by
  rw[bH];exact ah
 have h4:aX d d (D4 2 r 0 b) B N' S' = eu d d (D4 2 r 0 b) B N' S':=by
  unfold aX;rw[Ο (by grind [D4]),Ω (show(D4 2 r 0 b).Ζ=2 from rfl)]
 rw[Q,I];show OJ d (bH d B 6 ⟨d,d,D4 2 r 0 b⟩ N' S').2.1 r;grind [oS,pA,Dj]
def kZ{d B:Int}{m:fK}{N:ω}{S:Τ}(h:m.to≠d)(Ξ:Nat):bH d B (Ξ+1) m N S=([m],N,S):=by
 rw[bH];exact Ω h
theorem wM{d B r:Int}{ls:List x4}{x:K4}(A:bX r=d):∀(gs:List Int) (N:ω) (S:Τ),ε N.Ψ r=some x->d∈gs->OJ d (bT (bH d B 7) (gs.map λg=>(⟨d,g,⟨1,r,0,false,ls,[]⟩⟩:fK)) N S).2.1 r
 | [],N,S,_,h=>ah
 | g::gs,N,S,M,h=>by
  rw[al];by_cases e:g=d
  .grind [bT,oS,pA,Gc]
  .have hm:=kZ (B:=B) (m:=⟨d,g,⟨1,r,0,false,ls,[]⟩⟩) (N:=N) (S:=S) e 6;have:=wM (B:=B) (ls:=ls) (x:=x) A gs N S M ah
   grind [bT]
structure PU (υ:B4) (d F:Int) (N:ω) (S:Τ):Prop where
 hin:Nn υ d N S
 Ol:Qp d F N
 sv:∀k,OJ d N k
structure S4 (F:Int) (y:fK):Prop where
 ct:OL y.ct
 x:QH F y
structure QW (υ:B4) (d F:Int) (N:ω) (b n:Nat) (Δ:L6):Prop where
 nd:PU υ d F Δ.2.1 Δ.2.2
 bd:ey Δ.2.2+F0 Δ.2.1<=b
 O:∀y∈Δ.1,S4 F y
 len:Δ.1.length<=n
 ν:Δ.2.1.ν=N.ν
theorem QW.same{υ:B4}{d F:Int}{N:ω}{S:Τ}{b n:Nat}(h:PU υ d F N S)(hb:ey S+F0 N<=b):QW υ d F N b n ([],N,S):=⟨h,hb,ah,aD _,rfl⟩
def Hi{υ:B4}{d F B:Int}{l:List fK}{N:ω}{S:Τ}{b:Nat}(hs:0<=d/\d<F)(A:b<=2000)(hP:∀y∈l,QV d 7 y)(hX:∀y∈l,QH F y)(hin:Nn υ d N S)(hw:Qp d F N)(hv:∀k,OJ d (K6 d B l N S).2.1 k)(hb:ey S+F0 N+gy d l<=b):QW υ d F N b (l.length*3300) (K6 d B l N S):=by
 obtain⟨I,Q,h3,h4⟩:=nm (B:=B) (Ξ:=7) l N S b A hP hin hb;have h5:=Hh (B:=B) (S:=S) hs hX hw;have h6:=jH (f:=λm:fK=>PT m.ct.Ζ) (C:=3300) (l:=l) λm _=>re _;exact⟨⟨I,h5.nd,hv⟩,Q,λy U=>⟨(h3 y U).ct,h5.O y U⟩,aO h4 h6,h5.ν⟩
theorem oH{υ:B4}{d F B:Int}{x:fK}{N:ω}{S:Τ}{b:Nat}(hs:0<=d/\d<F)(h:PU υ d F N S)(M:S4 F x)(hb:ey S+F0 N<=b)(A:b+24<=2000):QW υ d F N (b+24) 3300 (dM d F x B N S):=by
 have ha:=M.x.am;have J:=M.x.kd;have hX:=Ki (B:=B) (S:=S) hs M.x h.Ol;have hV:=λk=>If (F:=F) (B:=B) (x:=x) (S:=S) (h.sv k);unfold dM at hX hV ⊢;split
 .rename_i hc;rw[Ω hc] at hX hV;obtain⟨⟨I,Q,h3⟩,h4,_⟩:=yj (Ν:=x.Ν) (B:=B) h.hin M.ct D D;have hz:=kb (d:=d) (l:=(aX d x.Ν x.ct B N S).1) ah;obtain⟨p1,p2,p3,_⟩:=nm (B:=B) (Ξ:=7) _ _ _ (b+24) A (λy U=>(I y U).1) Q D;exact⟨⟨p1,hX.nd,hV⟩,p2,λy U=>⟨(p3 y U).ct,hX.O y U⟩,h4,hX.ν⟩
 .exact QW.same h D
def zl{F n:Int}{ls:List x4}(h:jE F n ls):∀l∈ls,Rz F l:=λl T=>(h.2 l T).ts
def Ag{d c:Int}(h:0<=c/\c<64):bX (d*4294967296+c)=d:=by
 unfold bX;omega
theorem pU{υ:B4}{d F B C7:Int}{ls:List x4}{N:ω}{S:Τ}{b:Nat}(hs:0<=d/\d<F)(A:F<=12)(h:PU υ d F N S)(hc:N.ν<64)(hi:S.υ.B7.length<=64)(ha:Nu ls<=12)(ht:0<=B)(hb:ey S+F0 N<=b)(a9:b+24<=2000) :
  (fO d F ls B C7 N S).2=([],N,S)/\(fO d F ls B C7 N S).1.2≠0 \/
  ((fO d F ls B C7 N S).1=(d*4294967296+N.ν,0)/\QW υ d F { N with ν:=N.ν+1 } (b+24) 400000 (fO d F ls B C7 N S).2):=by
 have a7:0<=(S.υ.B7.length:Int)/\(S.υ.B7.length:Int)<=64:=D;have b0:=h.Ol.ν;unfold fO;split
 .grind
 .rename_i I;have b3 : ¬C7>1099511627776:=D;have Q:jE F S.υ.B7.length ls:=ah;split
  .grind
  .rename_i h3;refine .inr ⟨rfl,?_⟩;dsimp only;generalize hid:d*4294967296+N.ν=r;have a4:bX r=d:=by rw[<-hid];exact Ag ⟨b0,hc⟩
   have a2:Qo F r:=⟨by have e:r / 4294967296=d:=a4;rw[e];exact hs,D⟩;have J:=a2.i64 A;have b4:=jx ls F.toNat;have a6:∀g∈bL ls F.toNat,0<=g/\g<F:=by grind [UW]
   have b5:ε N.Ψ r=none:=by
    cases hg:ε N.Ψ r with
    | none=>rfl
    | some x=>have:=h.Ol.fr _ (bR hg);omega
   have hP:=wT (d:=d) Q A a7 J (gs:=bL ls F.toNat);have hin:=Ak (r:=r) (u:=C7) (ls:=ls) h.hin A;have hX:∀y∈ck d (bL ls F.toNat) [] ⟨1,r,0,false,ls,[]⟩,QH F y:=oZ (bE 1) a2 hs a6 (zl Q) ha
   have hw:Qp d F { N with ν:=N.ν+1,Ψ:=ez N.Ψ r ⟨ls,bL ls F.toNat,C7,[],[],false,false⟩ }:=by
    refine⟨ah,iE h.Ol.nb,h.Ol.np,λp hp=>?_,h.Ol.pt,λp hp=>?_⟩
    .rcases jR hp with rfl|hp
     .exact⟨⟨Q.1.2,λl T=>(Q.2 l T).ok A a7,ah,by grind [xs],by unfold xs;grind⟩,a2,zl Q,ha,a6⟩
     .exact h.Ol.ex p hp
    .dsimp only;rcases jR hp with rfl|hp
     .omega
     .have:=h.Ol.fr p hp;omega
   have a5:gy d (ck d (bL ls F.toNat) [] ⟨1,r,0,false,ls,[]⟩)<=24:=by
    have q:=ra (d:=d) (ct:=⟨1,r,0,false,ls,[]⟩) (iP ls F.toNat);rw[mA];dsimp only at q;omega
   have b1:ε (ez N.Ψ r (⟨ls,bL ls F.toNat,C7,[],[],false,false⟩:K4)) r=some ⟨ls,bL ls F.toNat,C7,[],[],false,false⟩:=by rw[cF,Ω rfl]
   have hv:∀k,OJ d (K6 d B (ck d (bL ls F.toNat) [] ⟨1,r,0,false,ls,[]⟩) { N with ν:=N.ν+1,Ψ:=ez N.Ψ r ⟨ls,bL ls F.toNat,C7,[],[],false,false⟩ } S).2.1 k:=λk=>by
    by_cases hm:k=r/\d∈bL ls F.toNat
    .obtain⟨rfl,hm⟩:=hm;rw[mA];exact wM a4 _ _ _ b1 hm
    .refine vM λz hz b2=>?_;have a3:ε (ez N.Ψ r (⟨ls,bL ls F.toNat,C7,[],[],false,false⟩:K4)) k=some z:=hz;rw[cF] at a3;split at a3
     .grind
     .exact h.sv k z a3 b2
   have T:(ck d (bL ls F.toNat) [] ⟨1,r,0,false,ls,[]⟩).length<=12:=aO (kQ _ _ _ _) D;have hr:=Hi (b:=b+24) hs a9 hP hX hin hw hv (by unfold F0 at hb ⊢;grind);exact⟨hr.nd,hr.bd,hr.O,aO hr.len D,hr.ν⟩
