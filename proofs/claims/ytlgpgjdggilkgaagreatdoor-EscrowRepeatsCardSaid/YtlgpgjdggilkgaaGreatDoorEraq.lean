/- Lemmas. -/
import Derived.Test.YtlgpgjdggilkgaaGreatDoorErap
set_option linter.all false
set_option maxHeartbeats 1000000
namespace Go.Proofs.YtlgpgjdggilkgaaGreatDoor
section
open Go.V
def NQ{α:Type}(_:α):HP:=dp True
def sj{α:Type}(l:List α){L:LH}:A L (Ρ NQ l::L):=λθ Α w s=>by
 obtain⟨ok,ι,h,a,b1,c,Ξ⟩:=s;exact⟨ok,ι,h,a,b1,c,Hp.emp,Hp.emp,h,Hp.a8 _,Hp.c7 _,Hp.a8 _,Hp.sub.refl _,λ_ _=>trivial,Ξ⟩
attribute [local irreducible] Δ R GP Ο h2 O Ef A8 A CB GB V.Enters
def rQ{α:Type}(f:FuncId)(cap:LV)(Β:α->LV)(p:α->HP)(C:HP)(x:α):Prop:=∀L:LH,Λ Ε f (([]++[Value.agg (Β x).toArray]++cap:LV)).toArray (C::p x::L) (C9 (.bool true) (C::p x::L))
def oY{L:LH}(f:FuncId)(cap:LV)(C:HP)(M:OA)(c:Nat)(D:List Mi)(hl:D.length<=64)(hf:∀x∈D,rQ f cap de NQ C x) :
  Λ Ε 211 #[ae M D.length c,.func (.func f) #[] cap.toArray] (C::Ρ NQ D::ε de 7 M D::L) (C9 (.bool true) (C::Ρ NQ D::ε de 7 M D::L)):=by
 refine Λ.bd ?_;refine Ih ?_;intros;refine Δ.loop (α:=Nat) (λi=>i<=D.length) (λi=>[(0,ae M D.length c),(1,.func (.func f) #[] cap.toArray),(7,ae M D.length c),(8,E D.length),(9,E (i:Int))]) (λ_=>C::Ρ NQ D::ε de 7 M D::L) (λi=>D.length - i) 0 B aA (A.refl _) ?_;intro i hi;by_cases a2:i<D.length
 case neg =>
  refine Ih ?_;intros;exact KX.en ⟨rfl,rfl⟩
 have I:(i:Int).toNat=i:=B;have r:=bA a2;refine Ih ?_;intros;rw[I];refine R.υ (A.drop.trans ((A.c7 (A.d8 (f:=NQ) r)).trans (A.refl _))) ?_;refine R.ef (Ef.d7 rfl rfl (hf _ r _)) ac ?_;rintro _ _⟨rfl,rfl⟩;refine Ih ?_;intros;refine⟨i+1,B,B,?_,by exact ag⟩;rw[bC i];exact aA
def lq{L:LH}(f:FuncId)(cap:LV)(M:OA)(c:Nat) :
  Λ Ε 205 #[ae M 0 c,.func (.func f) #[] cap.toArray] L (C9 (.bool true) L):=by
 refine Λ.bd ?_;refine Ih ?_;intros;refine Δ.loop (α:=Unit) (λ_=>True) (λ_=>[(0,ae M 0 c),(1,.func (.func f) #[] cap.toArray),(7,ae M 0 c),(8,E 0),(9,E 0)]) (λ_=>L) (λ_=>0) () trivial aA (A.refl _) ?_;intro _ _;refine Ih ?_;intros;exact KX.en ⟨rfl,rfl⟩
def lp{L:LH}(f:FuncId)(cap:LV)(M:OA)(c:Nat) :
  Λ Ε 207 #[ae M 0 c,.func (.func f) #[] cap.toArray] L (C9 (.bool true) L):=by
 refine Λ.bd ?_;refine Ih ?_;intros;refine Δ.loop (α:=Unit) (λ_=>True) (λ_=>[(0,ae M 0 c),(1,.func (.func f) #[] cap.toArray),(7,ae M 0 c),(8,E 0),(9,E 0)]) (λ_=>L) (λ_=>0) () trivial aA (A.refl _) ?_;intro _ _;refine Ih ?_;intros;exact KX.en ⟨rfl,rfl⟩
def ln{L:LH}(f:FuncId)(cap:LV)(M:OA)(c:Nat) :
  Λ Ε 209 #[ae M 0 c,.func (.func f) #[] cap.toArray] L (C9 (.bool true) L):=by
 refine Λ.bd ?_;refine Ih ?_;intros;refine Δ.loop (α:=Unit) (λ_=>True) (λ_=>[(0,ae M 0 c),(1,.func (.func f) #[] cap.toArray),(7,ae M 0 c),(8,E 0),(9,E 0)]) (λ_=>L) (λ_=>0) () trivial aA (A.refl _) ?_;intro _ _;refine Ih ?_;intros;exact KX.en ⟨rfl,rfl⟩
def Oe(b:Bool):Value:=.bool b
def pW{L:LH}(x:Mi):Λ Ε 218 #[bh (de x)] L (λu Y=>u=.string x.name/\Y = L):=by
 refine Λ.bd ?_;refine Ih ?_;intros;exact KX.a8 aw A.drop ⟨rfl,rfl⟩
theorem Cc{L:LH}(M:OA)(c:Nat)(D:List Mi)(hl:D.length<=64)(hd:(D.map (·.name)).Nodup) :
  Λ Ε 217 #[ae M D.length c,.func (.func 218) #[] #[]] (ε de 7 M D::L) (C9 (.bool true) (ε de 7 M D::L)):=by
 refine Λ.bd ?_;refine Ih ?_;intros;refine R.ef (Ef.c8 LR Oe (.inr ⟨_,_,_,rfl,rfl,B⟩)) ac ?_;rintro _ _⟨bm,rfl,rfl⟩;refine Ih ?_;intros;refine Δ.loop (α:=Nat×List (ByteArray×Bool)) (λx=>x.1<=D.length/\∀j,x.1<=j->j<D.length->@List.lookup ByteArray Bool instBEqOfDecidableEq D[j]!.name x.2=none) (λx=>[(0,ae M D.length c),(1,.func (.func 218) #[] #[]),(5,.map (some bm)),(11,ae M D.length c),(12,E D.length),(13,E (x.1:Int))]) (λx=>τ LR Oe bm x.2::ε de 7 M D::L) (λx=>D.length - x.1) (0,[]) ay aA (A.refl _) ?_;rintro⟨i,m⟩ ⟨hi,hm⟩;dsimp only at hi hm ⊢;by_cases a2:i<D.length
 case neg =>
  refine Ih ?_;intros;exact KX.a8 aw A.drop ⟨rfl,rfl⟩
 have I:(i:Int).toNat=i:=B;refine Ih ?_;intros;rw[I];refine R.ef (Ef.c7 (first:=[]) (cap:=[]) (vs:=[bh (de D[i]!)]) (pW D[i]!) rfl rfl) ac ?_;rintro _ _⟨rfl,rfl⟩;refine R.ev (O.j5 (k:=D[i]!.name) rfl rfl) ac ?_;rw[hm i B a2];simp only[gF,Option.getD_none];refine Ih ?_;intros;refine R.ef (Ef.c7 (first:=[]) (cap:=[]) (vs:=[bh (de D[i]!)]) (pW D[i]!) rfl rfl) ac ?_;rintro _ _⟨rfl,rfl⟩;refine R.I1 (Ef.f5 (k:=D[i]!.name) (e:=true) rfl rfl rfl rfl) ?_;rintro _ _ rfl;refine Ih ?_;intros;refine⟨(i+1,fc m D[i]!.name true),⟨B,?_⟩,B,?_,A.c7 A.drop⟩
 .intro j hj r;dsimp only at hj ⊢;rw[mH,Ω,hm j B r];intro e
  have J:(D.map (·.name))[j]'(by simpa using r)=(D.map (·.name))[i]'(by simp;omega):=by
   rw[C5 r,C5 B] at e;simpa using e
  have:=(List.getElem_inj hd).1 J
  omega
 .dsimp only;rw[bC i];exact aA
def yU{L:LH}(M:OA)(c:Nat) :
  Λ Ε 219 #[ae M 0 c,.func (.func 220) #[] #[]] L (C9 (.bool true) L):=by
 refine Λ.bd ?_;refine Ih ?_;intros;refine R.ef (Ef.c8 LR Oe (.inr ⟨_,_,_,rfl,rfl,B⟩)) ac ?_;rintro _ _⟨bm,rfl,rfl⟩;refine Ih ?_;intros;refine Δ.loop (α:=Unit) (λ_=>True) (λ_=>[(0,ae M 0 c),(1,.func (.func 220) #[] #[]),(5,.map (some bm)),(11,ae M 0 c),(12,E 0),(13,E 0)]) (λ_=>τ LR Oe bm ([]:List (ByteArray×Bool))::L) (λ_=>0) () trivial aA (A.refl _) ?_;intro _ _;refine Ih ?_;intros;exact KX.a8 aw A.drop ⟨rfl,rfl⟩
def yT{L:LH}(M:OA)(c:Nat) :
  Λ Ε 221 #[ae M 0 c,.func (.func 222) #[] #[]] L (C9 (.bool true) L):=by
 refine Λ.bd ?_;refine Ih ?_;intros;refine R.ef (Ef.c8 LR Oe (.inr ⟨_,_,_,rfl,rfl,B⟩)) ac ?_;rintro _ _⟨bm,rfl,rfl⟩;refine Ih ?_;intros;refine Δ.loop (α:=Unit) (λ_=>True) (λ_=>[(0,ae M 0 c),(1,.func (.func 222) #[] #[]),(5,.map (some bm)),(11,ae M 0 c),(12,E 0),(13,E 0)]) (λ_=>τ LR Oe bm ([]:List (ByteArray×Bool))::L) (λ_=>0) () trivial aA (A.refl _) ?_;intro _ _;refine Ih ?_;intros;exact KX.a8 aw A.drop ⟨rfl,rfl⟩
def yS{L:LH}(M:OA)(c:Nat) :
  Λ Ε 223 #[ae M 0 c,.func (.func 224) #[] #[]] L (C9 (.bool true) L):=by
 refine Λ.bd ?_;refine Ih ?_;intros;refine R.ef (Ef.c8 LR Oe (.inr ⟨_,_,_,rfl,rfl,B⟩)) ac ?_;rintro _ _⟨bm,rfl,rfl⟩;refine Ih ?_;intros;refine Δ.loop (α:=Unit) (λ_=>True) (λ_=>[(0,ae M 0 c),(1,.func (.func 224) #[] #[]),(5,.map (some bm)),(11,ae M 0 c),(12,E 0),(13,E 0)]) (λ_=>τ LR Oe bm ([]:List (ByteArray×Bool))::L) (λ_=>0) () trivial aA (A.refl _) ?_;intro _ _;refine Ih ?_;intros;exact KX.a8 aw A.drop ⟨rfl,rfl⟩
end
section
open Go.V
attribute [local irreducible] Δ R GP Ο h2 O Ef A8 A CB GB V.Enters
structure Q3 (x:Mi):Prop where
 word:OU x.name
 form:if x.obj=true then x.mixed=false/\x.PV=false/\0<=x.bind/\x.bind<=2 else x.OR=0/\x.bind=0/\x.level=0
 num:(x.obj=true->1<=x.OR/\x.OR<=1048576)/\0<=x.level/\x.level<=100
structure Of (c:D4):Prop where
 B5:c.B5.length<=64
 it:∀x∈c.B5,Q3 x
 di:(c.B5.map (·.name)).Nodup
abbrev JO(c:Iq)(L:LH):LH:=ε de 7 c.F3 c.B5::L
def qS{L:LH}(c:Iq)(h:Of c.m):Λ Ε 154 #[bh c.cells] (JO c (bO::L)) (C9 (.bool true) (JO c (bO::L))):=by
 have l1:c.B5.length<=64:=h.B5;refine Λ.bd ?_;simp only[JO,Iq.cells];refine Ih ?_;intros;refine R.cr (lq _ [] c.JK c.JL) ?_;refine Ih ?_;intros;refine R.cr (lp _ [] c.MP c.MQ) ?_;refine Ih ?_;intros;refine R.cr (ln _ [] c.Ng c.Nh) ?_;refine Ih ?_;intros;exact KX.en ⟨rfl,rfl⟩
def Hr(x:Mi)(h:OU x.name):rQ 212 [] de NQ bO x:=by
 intro L;refine Λ.bd (args:=[bh (de x)]) ?_;refine Ih ?_;intros;refine R.cr (Ci x.name h) ?_;refine Ih ?_;intros;exact KX.a8 aw A.drop ⟨rfl,rfl⟩
def yG{L:LH}(c:Iq)(h:Of c.m):Λ Ε 155 #[bh c.cells] (JO c (bO::L)) (C9 (.bool true) (JO c (bO::L))):=by
 refine Λ.bd ?_;simp only[JO,Iq.cells];refine Ih ?_;intros;refine R.υ (sj c.B5) ?_;(first|refine R.ef (Ef.call (oY (L:=[]) _ [] bO c.F3 c.G3 c.B5 h.B5 (λx K=>Hr x (h.it x K).word)) rfl eY) ac ?_);rintro _ _⟨_,⟨rfl,rfl⟩,hL⟩;simp only[aj,ak] at hL;subst hL;refine Ih ?_;intros;refine R.cr (lq _ [] c.JK c.JL) ?_;refine Ih ?_;intros;refine R.cr (lp _ [] c.MP c.MQ) ?_;refine Ih ?_;intros;refine R.cr (ln _ [] c.Ng c.Nh) ?_;refine Ih ?_;intros;exact KX.en ⟨rfl,rfl⟩
def so{L:LH}(c:Iq)(h:Of c.m):Λ Ε 156 #[bh c.cells] (JO c (bO::L)) (C9 (.bool true) (JO c (bO::L))):=by
 refine Λ.bd ?_;simp only[JO,Iq.cells];refine Ih ?_;intros;(first|refine R.ef (Ef.call (Cc (L:=[]) c.F3 c.G3 c.B5 h.B5 h.di) rfl eY) ac ?_);rintro _ _⟨_,⟨rfl,rfl⟩,hL⟩;simp only[aj,ak] at hL;subst hL;refine Ih ?_;intros;refine R.cr (yU c.JK c.JL) ?_;refine Ih ?_;intros;refine R.cr (yT c.MP c.MQ) ?_;refine Ih ?_;intros;refine R.cr (yS c.Ng c.Nh) ?_;refine Ih ?_;intros;exact KX.en ⟨rfl,rfl⟩
abbrev OW:Nat:=116
def tR(x:Mi)(h:Q3 x):rQ 226 [] de NQ (dp True) x:=by
 intro L;have hf:=h.form;refine Λ.bd (args:=[bh (de x)]) ?_;cases K:x.obj with
 | true =>
  rw[μ K] at hf;obtain⟨f1,f2,f3,f4⟩:=hf;have e:de x=[.string x.name,.bool true,.bool false,.bool false,E x.OR,E x.bind,E x.level]:=by unfold de;rw[K,f1,f2]
  rw[e];refine Ih ?_;intros;exact KX.a8 aw A.drop ⟨by rw[bI f4];rfl,rfl⟩
 | false =>
  rw[Ω (by rw[K];decide)] at hf;obtain⟨f1,f2,f3⟩:=hf;have e:de x=[.string x.name,.bool false,.bool x.mixed,.bool x.PV,E 0,E 0,E 0]:=by unfold de;rw[K,f1,f2,f3]
  rw[e];refine Ih ?_;intros;exact KX.a8 aw A.drop ⟨by rw[bI rfl];rfl,rfl⟩
def tI{L:LH}(c:Iq)(h:Of c.m):Λ Ε 157 #[bh c.cells] (JO c (bO::L)) (C9 (.bool true) (JO c (bO::L))):=by
 have l1:c.B5.length<=64:=h.B5;refine Λ.bd ?_;simp only[JO];refine Ih ?_;intros;rename_i b1 b3;refine R.υ (A.pure trivial (sj c.B5)) ?_;simp only[Iq.cells];refine Ih ?_;intros;(first|refine R.ef (Ef.call (oY (L:=[]) _ [] (dp True) c.F3 c.G3 c.B5 l1 (λx K=>tR x (h.it x K))) rfl eY) ac ?_);rintro _ _⟨_,⟨rfl,rfl⟩,hL⟩;simp only[aj,ak] at hL;subst hL;refine Ih ?_;intros;refine R.cr (lq _ [al b3] c.JK c.JL) ?_;refine Ih ?_;intros;refine R.cr (lp _ [al b3] c.MP c.MQ) ?_;refine Ih ?_;intros;refine R.cr (ln _ [] c.Ng c.Nh) ?_;refine Ih ?_;intros;exact KX.en ⟨rfl,rfl⟩
def su(x:Mi)(h:Q3 x):rQ 237 [] de NQ (dp True) x:=by
 intro L;obtain⟨J,U,h3⟩:=h.num;refine Λ.bd (args:=[bh (de x)]) ?_;cases K:x.obj with
 | true =>
  obtain⟨f1,f2⟩:=J K;have e:de x=[.string x.name,.bool true,.bool x.mixed,.bool x.PV,E x.OR,E x.bind,E x.level]:=by unfold de;rw[K]
  rw[e];refine Ih ?_;intros;exact KX.a8 aw A.drop ⟨by rw[bI h3];rfl,rfl⟩
 | false =>
  have e:de x=[.string x.name,.bool false,.bool x.mixed,.bool x.PV,E x.OR,E x.bind,E x.level]:=by unfold de;rw[K]
  rw[e];refine Ih ?_;intros;exact KX.a8 aw A.drop ⟨by rw[bI h3];rfl,rfl⟩
def BQ{L:LH}(c:Iq)(h:Of c.m):Λ Ε 158 #[bh c.cells] (JO c (bO::L)) (C9 (.bool true) (JO c (bO::L))):=by
 have l1:c.B5.length<=64:=h.B5;refine Λ.bd ?_;simp only[JO,Iq.cells];refine Ih ?_;intros;rename_i b1 b3;refine R.υ (A.pure trivial (sj c.B5)) ?_;(first|refine R.ef (Ef.call (oY (L:=[]) _ [] (dp True) c.F3 c.G3 c.B5 l1 (λx K=>su x (h.it x K))) rfl eY) ac ?_);rintro _ _⟨_,⟨rfl,rfl⟩,hL⟩;simp only[aj,ak] at hL;subst hL;refine Ih ?_;intros;refine R.cr (lq _ [al b3] c.JK c.JL) ?_;refine Ih ?_;intros;refine R.cr (lp _ [al b3] c.MP c.MQ) ?_;refine Ih ?_;intros;refine R.cr (ln _ [] c.Ng c.Nh) ?_;refine Ih ?_;intros;exact KX.en ⟨rfl,rfl⟩
def DT{L:LH}(c:Iq)(h:Of c.m):Λ Ε 107 #[bh c.cells] (JU c::bO::L) (C9 (E 0) (JU c::bO::L)):=by
 refine Λ.bd ?_;refine Δ.υ (Y:=JO c (bO::JU c::L)) (QW.trans (by simp only[JO];exact ag)) ?_;simp only[Iq.cells];refine Ih ?_;intros;rename_i b1;refine R.υ (Y:=JO c (bO::obj b1 OW c.cells::JU c::L)) (by simp only[JO,Iq.cells];exact ag) ?_;refine R.cr (qS c h) ?_;simp only[JO,Iq.cells];refine Ih ?_;intros;refine R.υ (Y:=JO c (bO::obj b1 OW c.cells::JU c::L)) (by simp only[JO,Iq.cells];exact ag) ?_;refine R.cr (yG c h) ?_;simp only[JO,Iq.cells];refine Ih ?_;intros;refine R.υ (Y:=JO c (bO::obj b1 OW c.cells::JU c::L)) (by simp only[JO,Iq.cells];exact ag) ?_;refine R.cr (so c h) ?_;simp only[JO,Iq.cells];refine Ih ?_;intros;refine R.υ (Y:=JO c (bO::obj b1 OW c.cells::JU c::L)) (by simp only[JO,Iq.cells];exact ag) ?_;refine R.cr (tI c h) ?_;simp only[JO,Iq.cells];refine Ih ?_;intros;refine R.υ (Y:=JO c (bO::obj b1 OW c.cells::JU c::L)) (by simp only[JO,Iq.cells];exact ag) ?_;refine R.cr (BQ c h) ?_;simp only[JO,Iq.cells];refine Ih ?_;intros;refine KX.a8 aw ?_ ⟨rfl,rfl⟩;exact ag
end
end Go.Proofs.YtlgpgjdggilkgaaGreatDoor
namespace Go.V
def A.n8{L Α:LH}{α:Type}{Β:α->LV}{sz b bU:Nat}{cs:LV}[h:KP L b bU cs Α](D:List α)(hc:cs=D.flatMap Β)(hs:∀x∈D,(Β x).length=sz)(hm:D.length<=9223372036854775807):A L (ε Β sz (some ⟨b,0,none⟩) D::Α) :=
 (A.perm h.perm).trans ((A.d9 hc rfl hs hm).trans A.JC)
end Go.V
namespace Go.Proofs.YtlgpgjdggilkgaaGreatDoor
section
open Go.V
attribute [local irreducible] Δ R GP Ο h2 O Ef A8 A CB GB V.Enters
def uw(bv:Nat)(M:OA)(c:Nat)(l:LL)(cs:Nat->Int)(hm:l.length<=1000000) :
  rS 313 [al bv] l.length cs (λ_=>bW [obj bv 22 [ae M l.length c],ε (a0 .i64) 1 M ((List.range l.length).map cs)]):=by
 intro k hk L;have r:(k:Int).toNat=k:=B;have hl:((List.range l.length).map cs).length=l.length:=by simp
 refine Λ.bd (args:=[E (k:Int),al bv]) ?_;refine Δ.υ A.NN ?_;simp only[aj,ak];refine Ih ?_;intros;rw[r,nZ hk];exact KX.a8 aw (A.f8 (Μ:=[_,_]) (L:=L)) ⟨rfl,rfl⟩
def cN{φ ψ:Prop}(k:ψ)(h:Hid ψ->φ:=by intro k;first|refine R.ci (f:=311) (Hid.out k)|refine Ο.ci (f:=311) (Hid.out k)|refine R.cf (f:=311) rfl (Hid.out k)|refine Ο.cf (f:=311) rfl (Hid.out k)|refine KX.Nc (Hid.out k)):φ:=h ⟨k⟩
def Ur{φ ψ:Prop}(k:ψ)(h:Hid ψ->φ:=by intro k;(repeat (first|refine aa ?_|intro sh|refine cN ?_));(repeat revert sh);exact Hid.out k):φ:=h ⟨k⟩
theorem Ak{L:LH}(M:OA)(c:Nat)(D:LL)(hb:D.length<=4096)(K:∀l∈D,π l) :
  Λ Ε 300 #[ae M D.length c,E 0,.bool true] (ε aI 3 M D::L) (λv Y =>
   (dU D<0/\v=.tuple #[ae none 0 0,ae none 0 0,E 10]/\Y = ε aI 3 M D::L) \/
   (0<=dU D/\∃r c1 I c2,v=.tuple #[ae r (K1 D (K2 D 0) D.length).length c1,ae I (KR D (K2 D 0) D.length).length c2,E 0]/\Y = Υ aI 3 G1 r c1 (K1 D (K2 D 0) D.length)::Υ aI 3 G1 I c2 (KR D (K2 D 0) D.length)::ε aI 3 M D::L)):=by
 have hw:∀x∈D,H8 x:=λx h=>(K x h).w;have a2:=kh K D.length B;rw[lK] at a2;refine Λ.bd ?_;refine Ur ?_;intros;refine R.cr (jp M D.length c D rfl hb K) ?_;refine Ur ?_;intros;refine R.cr (ku M D.length c D rfl hb K) ?_;refine Ur ?_;intros;rename_i bl bn;refine R.υ (Y:=bW (Oa bn bl M c D 0 0)::ε aI 3 M D::ε aI 3 M D::L) ?_ ?_
 .refine A.trans ?_ A.f8;simp only[Oa,L7,aj,ak];refine(A.at (Μ:=ε aI 3 M D) (A.dup (kj _ _ _ _))).trans ?_;refine(A.dup (kj _ _ _ _)).trans ?_;exact ag
 (first|refine R.ef (Ef.call (mM _ _ M c D (K2 D 0) (λk=>bW (Oa bn bl M c D 0 k)) B hw (oU B hw) (tx bn bl M c D 0 B B ac hw)) rfl eY) ac ?_);rintro _ _⟨_,⟨r,c1,I,c2,rfl,rfl⟩,hL⟩;simp only[aj,ak] at hL;subst hL;refine Ur ?_;intros;exact KX.a8 aw (A.refl _) (.inr ⟨B,r,c1,I,c2,rfl,rfl⟩)
theorem Al{L:LH}(M:OA)(c:Nat)(D:LL)(n:Int)(hb:D.length<=4096)(K:∀l∈D,π l)(a9:0<n)(a5:n<=1099511627776) :
  Λ Ε 300 #[ae M D.length c,E n,.bool true] (ε aI 3 M D::L) (λv Y =>
   (dU D<n/\v=.tuple #[ae none 0 0,ae none 0 0,E 10]/\Y = ε aI 3 M D::L) \/
   (n<=dU D/\∃I c1 a2 c2,v=.tuple #[ae I (K1 D (K8 D n) D.length).length c1,ae a2 (KR D (K8 D n) D.length).length c2,E 0]/\Y = Υ aI 3 G1 I c1 (K1 D (K8 D n) D.length)::Υ aI 3 G1 a2 c2 (KR D (K8 D n) D.length)::ε aI 3 M D::L)):=by
 have hw:∀x∈D,H8 x:=λx h=>(K x h).w;refine Λ.bd ?_;refine Ur ?_;intros;refine R.cr (jp M D.length c D rfl hb K) ?_;refine Ur ?_;intros;refine R.cr (ku M D.length c D rfl hb K) ?_;by_cases hs:dU D<n
 .refine Ur ?_;intros;exact KX.a8 aw (A.refl _) (.inl ⟨hs,rfl,rfl⟩)
 have a6:D≠[]:=by
  rintro rfl;simp[dU] at hs;omega
 refine Ur ?_;intros;rename_i bl bn;refine R.υ A.drop (R.υ A.drop ?_);refine R.ef (Ef.makeSlice (a0 .i64) 0 rfl rfl rfl B B B) ac ?_;rintro _ _⟨bw,rfl,rfl⟩;rw[aZ,<-lm D.length (λk=>D[k]!.2.2)];repeat first|refine Δ.sm 8 ?_|refine cR ?_|intro _|refine R.ci (f:=311) ?_|refine Ο.ci (f:=311) ?_|refine R.cf (f:=311) rfl ?_|refine Ο.cf (f:=311) rfl ?_|refine KX.Nc ?_
 refine Δ.c7 (α:=Unit) (λ_=>True) (λ_=>[(0,ae M D.length c),(1,E n),(10,ae (some ⟨bw,0,none⟩) D.length D.length)]) (λ_=>ε (a0 .i64) 1 (some ⟨bw,0,none⟩) (Od D)::ε aI 3 M D::L) ?_ ?_
 .refine Ur ?_;intros
  refine Δ.loop (α:=Nat) (λi=>i<=D.length) (λi=>[(0,ae M D.length c),(1,E n),(10,ae (some ⟨bw,0,none⟩) D.length D.length),(43,ae M D.length c),(44,E D.length),(45,E (i:Int))])
   (λi=>Υ (a0 .i64) 1 kR (some ⟨bw,0,none⟩) D.length (gL D.length i (λk=>D[k]!.2.2))::ε aI 3 M D::L) (λi=>D.length - i) 0 B aA ag ?_
  intro i hi;have a7:=mq D.length i (λk=>D[k]!.2.2);by_cases a4:i<D.length
  case neg =>
   have hin:i=D.length:=B;subst hin
   have e:gL D.length D.length (λk=>D[k]!.2.2)=Od D:=by
    rw[mu];apply eN
    .simp[Od]
    .grind [Od]
   rw[e];refine Ur ?_;intros;exact⟨(),trivial,aA,(A.My (some ⟨bw,0,none⟩))⟩
  have a3:(i:Int).toNat=i:=B;have h3:(gL D.length i (λk=>D[k]!.2.2)).set i D[i]!.2.2=gL D.length (i+1) (λk=>D[k]!.2.2):=mo _ a4;refine Ur ?_;intros;rw[a3,h3];refine⟨i+1,B,B,?_,by exact ag⟩;rw[bC i];exact aA
 rintro _ _;refine Ur ?_;intros;refine R.ca (Ar (some ⟨bw,0,none⟩) D.length D n hb K a6 B B a5) ?_;rintro _ _⟨r,c3,rfl,rfl⟩;refine Ur ?_;intros;rename_i bv;refine R.υ (Y:=bW [obj bv 22 [ae r D.length c3],ε (a0 .i64) 1 r ((List.range D.length).map (K8 D n))]::ε aI 3 M D::ε aI 3 M D::L) ?_ ?_
 .refine(A.My r).trans ?_;refine A.trans ?_ A.f8;simp only[aj,ak];refine(A.at (Μ:=ε aI 3 M D) (A.dup (kj _ _ _ _))).trans ?_;exact ag
 (first|refine R.ef (Ef.call (mM _ _ M c D (K8 D n) (λ_=>bW [obj bv 22 [ae r D.length c3],ε (a0 .i64) 1 r ((List.range D.length).map (K8 D n))]) B hw (CC K B B) (uw bv r c3 D (K8 D n) B)) rfl eY) ac ?_);rintro _ _⟨_,⟨I,c1,a2,c2,rfl,rfl⟩,hL⟩;simp only[aj,ak] at hL;subst hL;refine Ur ?_;intros;exact KX.a8 aw (A.refl _) (.inr ⟨B,I,c1,a2,c2,rfl,rfl⟩)
theorem qY(mixed:Bool):OT mixed:=by
 cases mixed with
 | false=>exact xt
 | true =>
  refine⟨λl n hl h0 J k hk=>uu true l n hl h0 J k hk,?_⟩;intro L M c D n J U h3 h4;rcases Int.lt_or_eq_of_le h3 with h5|h5
  .have e:Mj true D n=K8 D n:=μ ⟨rfl,h5⟩;grind [lE,iO,Al]
  .subst h5;have e:Mj true D 0=K2 D 0:=Ω (λh=>iW h.2 B);grind [lE,iO,Ak]
